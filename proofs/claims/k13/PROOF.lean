import PyProof.Rows.All
import Wide.All
import OpenK.AllK
import Wide.FinOn
import KE.KStateDown
import Lean
import HandS.ForMost
import HandS.ForExc
import HandS.Wide
import HandS.IsInst
import HandS.Zip
import HandS.Rev
import HandS.More
import HandS.Words
import HandS.WordsExc
import HandS.Defaults
import HandS.ExcIs
import HandS.ExcField
import HandS.Style
import HandS.Head0
import HandS.Head1
import HandS.Head2
import HandS.HeadEnd
import HandS.HeadHook1
import HandS.HeadHook2
import PyProof.Conv_int_bool
import HandS.SortKw
import HandS.Deep
import PySem.Challenge.RW_sumcraft_k13_values_carried_on
set_option Elab.async false
set_option linter.all false
set_option maxRecDepth 100000
set_option maxHeartbeats 4000000
namespace DL
open PySem L2

/-! data -/
/-- an exception: its class's name, its own fields -/
structure Ec where
  c : Str
  fs : List (Str × Int)
inductive D where
  | non | bl (b : Bool) | int (i : Int) | str (x : Str) | ex (e : Ec)
  /-- the script: a list of ints that is only read -/
  | scr (ns : List Int)
  | lst (xs : List D) | tup (xs : List D)
/-- an exception object at a, of the class cls, its dict d -/
def ExV (cls : Value) (d : Option Addr) (a : Addr) : HO := .ext fun h => ∃ (oe : Obj) (vs : Array Value), h.get? a = some oe ∧ Zc cls d oe ∧ oe.data = .fields vs
/-- an exception's class, its fields in its dict -/
def EcR (K : PySem.W.Frag) (e : Ec) (cls : Value) (d : Option Addr) (Hf : Hp) : Prop :=
  ∃ C, cls = .ref C ∧ PySem.W.nsIn K mainGlobals e.c = some (some (.ref C)) ∧
    (match d with | none => e.fs = [] | some a => e.fs ≠ [] ∧ Hf a = some (.xd (e.fs.map fun p => (p.1, V.int p.2))))
/-- an exception object that is known stands at a -/
def ExAt (K : PySem.W.Frag) (H : Hp) (e : Ec) (a : Addr) : Prop := ∃ cls d, H a = some (ExV cls d a) ∧ EcR K e cls d H
mutual
def Rep (K : PySem.W.Frag) (H : Hp) : D → V → Prop
  | .non, v => v = .non
  | .bl b, v => v = .bl b
  | .int i, v => v = .int i
  | .str x, v => v = .str x
  | .ex e, v => ∃ a, v = .ref a ∧ ExAt K H e a
  | .scr ns, v => ∃ a, v = .ref a ∧ SqL K H a (ns.map V.int)
  | .lst ds, v => ∃ a vs, v = .ref a ∧ H a = some (.lst vs) ∧ Reps K H ds vs
  | .tup ds, v => ∃ a vs, v = .ref a ∧ H a = some (.tup vs) ∧ Reps K H ds vs
def Reps (K : PySem.W.Frag) (H : Hp) : List D → List V → Prop
  | [], vs => vs = []
  | d :: ds, vs => ∃ v r, vs = v :: r ∧ Rep K H d v ∧ Reps K H ds r
end
/-- what is read or owned: frozen data, or a list that is not frozen -/
inductive O where | fz (d : D) | ls (os : List O) | tp (os : List O)
mutual
def RepO (K : PySem.W.Frag) (Hf H : Hp) : O → V → List Addr → Prop
  | .fz d, v, L => Rep K Hf d v ∧ L = []
  | .ls os, v, L => ∃ a vs M, v = .ref a ∧ H a = some (.lst vs) ∧ RepOs K Hf H os vs M ∧ L = a :: M
  | .tp os, v, L => ∃ a vs M, v = .ref a ∧ H a = some (.tup vs) ∧ RepOs K Hf H os vs M ∧ L = a :: M
def RepOs (K : PySem.W.Frag) (Hf H : Hp) : List O → List V → List Addr → Prop
  | [], vs, L => vs = [] ∧ L = []
  | o :: os, vs, L => ∃ v r L1 L2, vs = v :: r ∧ L = L1 ++ L2 ∧ RepO K Hf H o v L1 ∧ RepOs K Hf H os r L2
end
mutual
def RepV (K : PySem.W.Frag) (Hf H : Hp) : O → V → Prop
  | .fz d, v => Rep K Hf d v
  | .ls os, v => ∃ a vs, v = .ref a ∧ H a = some (.lst vs) ∧ RepVs K Hf H os vs
  | .tp os, v => ∃ a vs, v = .ref a ∧ H a = some (.tup vs) ∧ RepVs K Hf H os vs
def RepVs (K : PySem.W.Frag) (Hf H : Hp) : List O → List V → Prop
  | [], vs => vs = []
  | o :: os, vs => ∃ v r, vs = v :: r ∧ RepV K Hf H o v ∧ RepVs K Hf H os r
end
mutual
def er : O → D
  | .fz d => d
  | .ls os => .lst (ers os)
  | .tp os => .tup (ers os)
def ers : List O → List D
  | [] => []
  | o :: os => er o :: ers os
end

section
variable {K : PySem.W.Frag} {H H' Hf Hf' : Hp}
theorem same_seqT {a : Addr} {xs : List V} (e : Same H H') (h : SqT K H a xs) : SqT K H' a xs := by
  rcases h with (h | ⟨o, h⟩) | h
  · exact .inl (.inl (e _ _ h))
  · exact .inl (.inr ⟨o, e _ _ h⟩)
  · exact .inr h
theorem EcR.mono {e : Ec} {cls : Value} {d : Option Addr} (z : Same H H') (h : EcR K e cls d H) : EcR K e cls d H' := by
  obtain ⟨C, h1, h2, h3⟩ := h
  refine ⟨C, h1, h2, ?_⟩
  cases d with
  | none => exact h3
  | some a => exact ⟨h3.1, z _ _ h3.2⟩
theorem ExAt.mono {e : Ec} {a : Addr} (z : Same H H') (h : ExAt K H e a) : ExAt K H' e a := by
  obtain ⟨cls, d, h1, h2⟩ := h
  exact ⟨cls, d, z _ _ h1, h2.mono z⟩
mutual
theorem Rep.mono (e : Same H H') : ∀ (d : D) (v : V), Rep K H d v → Rep K H' d v
  | .non, _, h => h
  | .bl _, _, h => h
  | .int _, _, h => h
  | .str _, _, h => h
  | .ex _, _, h => by
    obtain ⟨a, e1, h1⟩ := h
    exact ⟨a, e1, h1.mono e⟩
  | .scr ns, _, h => by
    obtain ⟨a, e1, h1⟩ := h
    exact ⟨a, e1, e.seq h1⟩
  | .lst ds, _, h => by
    obtain ⟨a, vs, e1, h1, h2⟩ := h
    exact ⟨a, vs, e1, e _ _ h1, Reps.mono e ds vs h2⟩
  | .tup ds, _, h => by
    obtain ⟨a, vs, e1, h1, h2⟩ := h
    exact ⟨a, vs, e1, e _ _ h1, Reps.mono e ds vs h2⟩
theorem Reps.mono (e : Same H H') : ∀ (ds : List D) (vs : List V), Reps K H ds vs → Reps K H' ds vs
  | [], _, h => h
  | d :: ds, _, h => by
    obtain ⟨v, r, e1, h1, h2⟩ := h
    exact ⟨v, r, e1, Rep.mono e d v h1, Reps.mono e ds r h2⟩
end
mutual
theorem RepO.mono (f : Same Hf Hf') : ∀ (o : O) (v : V) (L : List Addr), (∀ a ∈ L, ∀ u, H a = some u → H' a = some u) → RepO K Hf H o v L → RepO K Hf' H' o v L
  | .fz d, _, _, _, h => ⟨Rep.mono f d _ h.1, h.2⟩
  | .ls os, _, L, e, h => by
    obtain ⟨a, vs, M, e1, h1, h2, e2⟩ := h
    subst e2
    exact ⟨a, vs, M, e1, e a List.mem_cons_self _ h1, RepOs.mono f os vs M (fun b hb => e b (List.mem_cons_of_mem _ hb)) h2, rfl⟩
  | .tp os, _, L, e, h => by
    obtain ⟨a, vs, M, e1, h1, h2, e2⟩ := h
    subst e2
    exact ⟨a, vs, M, e1, e a List.mem_cons_self _ h1, RepOs.mono f os vs M (fun b hb => e b (List.mem_cons_of_mem _ hb)) h2, rfl⟩
theorem RepOs.mono (f : Same Hf Hf') : ∀ (os : List O) (vs : List V) (L : List Addr), (∀ a ∈ L, ∀ u, H a = some u → H' a = some u) → RepOs K Hf H os vs L → RepOs K Hf' H' os vs L
  | [], _, _, _, h => h
  | o :: os, _, L, e, h => by
    obtain ⟨v, r, L1, L2, e1, e2, h1, h2⟩ := h
    subst e2
    exact ⟨v, r, L1, L2, e1, rfl, RepO.mono f o v L1 (fun b hb => e b (List.mem_append_left _ hb)) h1, RepOs.mono f os r L2 (fun b hb => e b (List.mem_append_right _ hb)) h2⟩
end
mutual
theorem RepV.mono (f : Same Hf Hf') (e : Same H H') : ∀ (o : O) (v : V), RepV K Hf H o v → RepV K Hf' H' o v
  | .fz d, _, h => Rep.mono f d _ h
  | .ls os, _, h => by
    obtain ⟨a, vs, e1, h1, h2⟩ := h
    exact ⟨a, vs, e1, e _ _ h1, RepVs.mono f e os vs h2⟩
  | .tp os, _, h => by
    obtain ⟨a, vs, e1, h1, h2⟩ := h
    exact ⟨a, vs, e1, e _ _ h1, RepVs.mono f e os vs h2⟩
theorem RepVs.mono (f : Same Hf Hf') (e : Same H H') : ∀ (os : List O) (vs : List V), RepVs K Hf H os vs → RepVs K Hf' H' os vs
  | [], _, h => h
  | o :: os, _, h => by
    obtain ⟨v, r, e1, h1, h2⟩ := h
    exact ⟨v, r, e1, RepV.mono f e o v h1, RepVs.mono f e os r h2⟩
end
mutual
theorem RepO.view : ∀ (o : O) (v : V) (L : List Addr), RepO K Hf H o v L → RepV K Hf H o v
  | .fz _, _, _, h => h.1
  | .ls os, _, _, h => by
    obtain ⟨a, vs, M, e1, h1, h2, _⟩ := h
    exact ⟨a, vs, e1, h1, RepOs.view os vs M h2⟩
  | .tp os, _, _, h => by
    obtain ⟨a, vs, M, e1, h1, h2, _⟩ := h
    exact ⟨a, vs, e1, h1, RepOs.view os vs M h2⟩
theorem RepOs.view : ∀ (os : List O) (vs : List V) (L : List Addr), RepOs K Hf H os vs L → RepVs K Hf H os vs
  | [], _, _, h => h.1
  | o :: os, _, _, h => by
    obtain ⟨v, r, L1, L2, e1, _, h1, h2⟩ := h
    exact ⟨v, r, e1, RepO.view o v L1 h1, RepOs.view os r L2 h2⟩
end
/-- what is owned is frozen: its addresses come to the frozen heap -/
def addF (Hf H : Hp) (L : List Addr) : Hp := fun a => if a ∈ L then H a else Hf a
theorem addF_in {L : List Addr} {a : Addr} (h : a ∈ L) : addF Hf H L a = H a := if_pos h
theorem addF_out {L : List Addr} {a : Addr} (h : a ∉ L) : addF Hf H L a = Hf a := if_neg h
theorem addF_same {L : List Addr} (hf : ∀ a ∈ L, Hf a = none) : Same Hf (addF Hf H L) := fun a o e => by
  by_cases h : a ∈ L
  · rw [hf a h] at e; cases e
  · rw [addF_out h]; exact e
theorem addF_sub {L : List Addr} (s : Same Hf H) : Same (addF Hf H L) H := fun a o e => by
  by_cases h : a ∈ L
  · rw [addF_in h] at e; exact e
  · rw [addF_out h] at e; exact s a o e
mutual
theorem RepO.frozen (G : Hp) (f : Same Hf G) : ∀ (o : O) (v : V) (L : List Addr), (∀ a ∈ L, G a = H a) → RepO K Hf H o v L → Rep K G (er o) v
  | .fz d, _, _, _, h => Rep.mono f d _ h.1
  | .ls os, _, _, e, h => by
    obtain ⟨a, vs, M, e1, h1, h2, e2⟩ := h
    subst e2
    refine ⟨a, vs, e1, ?_, RepOs.frozen G f os vs M (fun b hb => e b (List.mem_cons_of_mem _ hb)) h2⟩
    rw [e a List.mem_cons_self]; exact h1
  | .tp os, _, _, e, h => by
    obtain ⟨a, vs, M, e1, h1, h2, e2⟩ := h
    subst e2
    refine ⟨a, vs, e1, ?_, RepOs.frozen G f os vs M (fun b hb => e b (List.mem_cons_of_mem _ hb)) h2⟩
    rw [e a List.mem_cons_self]; exact h1
theorem RepOs.frozen (G : Hp) (f : Same Hf G) : ∀ (os : List O) (vs : List V) (L : List Addr), (∀ a ∈ L, G a = H a) → RepOs K Hf H os vs L → Reps K G (ers os) vs
  | [], _, _, _, h => h.1
  | o :: os, _, _, e, h => by
    obtain ⟨v, r, L1, L2, e1, e2, h1, h2⟩ := h
    subst e2
    exact ⟨v, r, e1, RepO.frozen G f o v L1 (fun b hb => e b (List.mem_append_left _ hb)) h1, RepOs.frozen G f os r L2 (fun b hb => e b (List.mem_append_right _ hb)) h2⟩
end
theorem Reps.length : ∀ {ds : List D} {vs : List V}, Reps K H ds vs → vs.length = ds.length
  | [], _, h => by have h : _ = _ := h; subst h; rfl
  | d :: ds, _, h => by
    obtain ⟨v, r, e1, _, h2⟩ := h
    subst e1
    simp [Reps.length h2]
theorem RepVs.length : ∀ {os : List O} {vs : List V}, RepVs K Hf H os vs → vs.length = os.length
  | [], _, h => by have h : _ = _ := h; subst h; rfl
  | d :: ds, _, h => by
    obtain ⟨v, r, e1, _, h2⟩ := h
    subst e1
    simp [RepVs.length h2]
theorem RepOs.length : ∀ {os : List O} {vs : List V} {L : List Addr}, RepOs K Hf H os vs L → vs.length = os.length
  | [], _, _, h => by have h : _ = _ := h.1; subst h; rfl
  | d :: ds, _, _, h => by
    obtain ⟨v, r, L1, L2, e1, _, _, h2⟩ := h
    subst e1
    simp [RepOs.length h2]
theorem ers_eq : ∀ os : List O, ers os = os.map er
  | [] => rfl
  | o :: os => by show er o :: ers os = _; rw [ers_eq os]; rfl
end

/-! outcomes -/
inductive Res (α : Type) where | ok (a : α) | exc (e : Ec) | bad
def Res.bind {α β : Type} (x : Res α) (f : α → Res β) : Res β := match x with
  | .ok a => f a
  | .exc e => .exc e
  | .bad => .bad
instance : Monad Res where
  pure := .ok
  bind := Res.bind
/-- a name's place: nothing known; a value, owned or not -/
inductive S where | un | vl (own : Bool) (o : O)
abbrev Env := List S
/-- a statement's outcome -/
inductive Out where | nx (r : Env) | ret (o : O) | bk (r : Env) | ct (r : Env) | exc (e : Ec) (r : Env) | bad
/-- a value: new (owned by nobody else), seen, or lent from outside -/
inductive R where | nw (o : O) | vw (o : O) | bw (o : O)
abbrev FE := Env → Res R
abbrev FS := Env → Out

structure Ext (Hf H Hf' H' : Hp) : Prop where
  same : Same H H'
  fsame : Same Hf Hf'
  sub : Same Hf' H'
  keep : ∀ a, H a ≠ none → Hf' a ≠ none → Hf a ≠ none
theorem Ext.refl {Hf H : Hp} (s : Same Hf H) : Ext Hf H Hf H := ⟨Same.refl _, Same.refl _, s, fun _ _ h => h⟩
theorem Ext.trans {Hf H Hf1 H1 Hf2 H2 : Hp} (x : Ext Hf H Hf1 H1) (y : Ext Hf1 H1 Hf2 H2) : Ext Hf H Hf2 H2 :=
  ⟨x.same.trans y.same, x.fsame.trans y.fsame, y.sub, fun a h1 h2 => x.keep a h1 (y.keep a (by
    cases q : H a with
    | none => exact absurd q h1
    | some o => rw [x.same a o q]; simp) h2)⟩
def SlotR (K : PySem.W.Frag) (Hf H0 H : Hp) : S → Option V → List Addr → Prop
  | .un, _, L => L = []
  | .vl true o, some v, L => RepO K Hf H o v L
  | .vl false o, some v, L => RepV K Hf H0 o v ∧ L = []
  | .vl _ _, none, _ => False
def EnvR (K : PySem.W.Frag) (Hf H0 H : Hp) : Env → St → List Addr → Prop
  | [], s, L => s = [] ∧ L = []
  | x :: r, s, L => ∃ y t L1 L2, s = y :: t ∧ L = L1 ++ L2 ∧ SlotR K Hf H0 H x y L1 ∧ EnvR K Hf H0 H r t L2
structure SR (K : PySem.W.Frag) (Hf0 H0 : Hp) (r : Env) (s : St) (Hf H : Hp) (L : List Addr) : Prop where
  ext : Ext Hf0 H0 Hf H
  env : EnvR K Hf H0 H r s L
  nd : L.Nodup
  fr : ∀ a ∈ L, Hf a = none ∧ H0 a = none
  ok : ∀ a ∈ L, H a ≠ none
def ResR (K : PySem.W.Frag) (H0 Hf H : Hp) : R → V → List Addr → Prop
  | .nw o, v, L => RepO K Hf H o v L
  | .vw o, v, L => RepV K Hf H o v ∧ L = []
  | .bw o, v, L => RepV K Hf H0 o v ∧ L = []
/-- addresses that are new behind H and not frozen -/
structure Nw (H Hf' H' : Hp) (L : List Addr) : Prop where
  nd : L.Nodup
  fr : ∀ a ∈ L, H a = none ∧ Hf' a = none ∧ H' a ≠ none
/-- what is wanted of an exception: class, own dict, slots, heap -/
abbrev Wx := Value → Option Addr → St → Hp → Prop
/-- the setting of a body: the frozen heap and the heap at its entry, the wish of exceptions -/
structure Cn where
  Hf0 : Hp
  H0 : Hp
  W : Wx
abbrev Cn.SR (c : Cn) (K : PySem.W.Frag) (r : Env) (s : St) (Hf H : Hp) (L : List Addr) : Prop := DL.SR K c.Hf0 c.H0 r s Hf H L
def PostX (c : Cn) (K : PySem.W.Frag) (s : St) (Hf H : Hp) (e : Ec) : Prop := ∀ cls d Hf' H', Ext Hf H Hf' H' → EcR K e cls d Hf' → c.W cls d s H'
def PostE (c : Cn) (K : PySem.W.Frag) (s : St) (Hf H : Hp) (Q : VK) : Res R → Prop
  | .ok r => ∀ v Hf' H' L, Ext Hf H Hf' H' → ResR K c.H0 Hf' H' r v L → Nw H Hf' H' L → Q v H'
  | .exc e => PostX c K s Hf H e
  | .bad => False
def PostT (c : Cn) (K : PySem.W.Frag) (s : St) (Hf H : Hp) (Q : Bool → Hp → Prop) : Res Bool → Prop
  | .ok b => ∀ Hf' H', Ext Hf H Hf' H' → Q b H'
  | .exc e => PostX c K s Hf H e
  | .bad => False
/-- arguments: what is new is frozen -/
def PostA (c : Cn) (K : PySem.W.Frag) (s : St) (Hf H : Hp) (Q : List V → Hp → Prop) : Res (List O) → Prop
  | .ok os => ∀ vs Hf' H', Ext Hf H Hf' H' → RepVs K Hf' H' os vs → Q vs H'
  | .exc e => PostX c K s Hf H e
  | .bad => False
def PostS (c : Cn) (K : PySem.W.Frag) (G : Hp) (D : Ends) : Out → Prop
  | .nx r => ∀ s Hf H L, Same G Hf → c.SR K r s Hf H L → D.nx s H
  | .bk r => ∀ s Hf H L, Same G Hf → c.SR K r s Hf H L → D.bk s H
  | .ct r => ∀ s Hf H L, Same G Hf → c.SR K r s Hf H L → D.ct s H
  | .ret o => ∀ v Hf H L, Ext c.Hf0 c.H0 Hf H → RepO K Hf H o v L → Nw c.H0 Hf H L → D.rt v H
  | .exc e r => ∀ s cls d Hf H L, Same G Hf → c.SR K r s Hf H L → EcR K e cls d Hf → c.W cls d s H
  | .bad => False
def SoE (c : Cn) (K : PySem.W.Frag) (t : TE) (f : FE) : Prop := ∀ r s Hf H L, c.SR K r s Hf H L → ∀ Q, PostE c K s Hf H Q (f r) → t s H Q
def SoT (c : Cn) (K : PySem.W.Frag) (t : TT) (f : Env → Res Bool) : Prop := ∀ r s Hf H L, c.SR K r s Hf H L → ∀ Q, PostT c K s Hf H Q (f r) → t s H Q
def SoA (c : Cn) (K : PySem.W.Frag) (t : TA) (f : Env → Res (List O)) : Prop := ∀ r s Hf H L, c.SR K r s Hf H L → ∀ Q, PostA c K s Hf H Q (f r) → t s H Q
def SoS (c : Cn) (K : PySem.W.Frag) (t : TS) (f : FS) : Prop := ∀ r s Hf H L, c.SR K r s Hf H L → ∀ D, PostS c K Hf D (f r) → t D s H
theorem PostS.mono {c : Cn} {K : PySem.W.Frag} {G G' : Hp} {D : Ends} {o : Out} (e : Same G G') (h : PostS c K G D o) : PostS c K G' D o := by
  cases o with
  | nx r => exact fun s Hf H L f => h s Hf H L (e.trans f)
  | bk r => exact fun s Hf H L f => h s Hf H L (e.trans f)
  | ct r => exact fun s Hf H L f => h s Hf H L (e.trans f)
  | ret o => exact h
  | exc e' r => exact fun s cls d Hf H L f => h s cls d Hf H L (e.trans f)
  | bad => exact h
structure DE (c : Cn) (X : Cx) (e : Expr) (f : FE) : Prop where
  ex : ∃ t, PE X e t ∧ SoE c X.K t f
structure DT (c : Cn) (X : Cx) (e : Expr) (f : Env → Res Bool) : Prop where
  ex : ∃ t, PT X e t ∧ SoT c X.K t f
/-- a test whatever its whole is -/
structure DW (c : Cn) (X : Cx) (e : Expr) (f : Env → Res Bool) : Prop where
  ex : ∃ t, PW X e t ∧ SoT c X.K t f
structure DA (c : Cn) (X : Cx) (e : List Expr) (f : Env → Res (List O)) : Prop where
  ex : ∃ t, PA X e t ∧ SoA c X.K t f
structure DS (c : Cn) (X : Cx) (st : Stmt) (f : FS) : Prop where
  ex : ∃ t, PS X st t ∧ SoS c X.K t f
structure DSs (c : Cn) (X : Cx) (st : List Stmt) (f : FS) : Prop where
  ex : ∃ t, PSs X st t ∧ SoS c X.K t f

section
variable {K : PySem.W.Frag} {H0 H H' Hf Hf' : Hp}
theorem ne_none_of {H H' : Hp} (e : Same H H') {a : Addr} (h : H a ≠ none) : H' a ≠ none := by
  cases q : H a with
  | none => exact absurd q h
  | some o => rw [e a o q]; simp
theorem same_eq {H H' : Hp} (e : Same H H') {a : Addr} (h : H a ≠ none) : H' a = H a := by
  cases q : H a with
  | none => exact absurd q h
  | some o => rw [e a o q]
theorem EnvR.mono (f : Same Hf Hf') : ∀ {r : Env} {s : St} {L : List Addr}, (∀ a ∈ L, ∀ u, H a = some u → H' a = some u) → EnvR K Hf H0 H r s L → EnvR K Hf' H0 H' r s L
  | [], _, _, _, h => h
  | x :: r, _, L, e, h => by
    obtain ⟨y, t, L1, L2, e1, e2, h1, h2⟩ := h
    subst e2
    refine ⟨y, t, L1, L2, e1, rfl, ?_, EnvR.mono f (fun b hb => e b (List.mem_append_right _ hb)) h2⟩
    cases x with
    | un => exact h1
    | vl w o =>
      cases y with
      | none => cases w <;> exact h1
      | some v =>
        cases w with
        | true => exact RepO.mono f o v L1 (fun b hb => e b (List.mem_append_left _ hb)) h1
        | false => exact ⟨RepV.mono f (Same.refl _) o v h1.1, h1.2⟩
/-- one place of the names, and what may be put there -/
theorem EnvR.at : ∀ {r : Env} {s : St} {L : List Addr} {i : Nat} {x : S}, EnvR K Hf H0 H r s L → r[i]? = some x → ∃ y L1 M L2, s[i]? = some y ∧ L = L1 ++ M ++ L2 ∧ SlotR K Hf H0 H x y M ∧
    ∀ (Hf' H' : Hp) (x' : S) (y' : Option V) (M' : List Addr), Same Hf Hf' → (∀ a ∈ L1 ++ L2, ∀ u, H a = some u → H' a = some u) → SlotR K Hf' H0 H' x' y' M' → EnvR K Hf' H0 H' (r.set i x') (s.set i y') (L1 ++ M' ++ L2)
  | [], _, _, _, _, _, e => by simp at e
  | z :: r, _, L, 0, x, h, e => by
    obtain ⟨y, t, L1, L2, e1, e2, h1, h2⟩ := h
    subst e1 e2
    have e3 : z = x := by simpa using e
    subst e3
    refine ⟨y, [], L1, L2, rfl, rfl, h1, fun Hf' H' x' y' M' f k q => ?_⟩
    exact ⟨y', t, M', L2, rfl, rfl, q, h2.mono f fun a ha => k a (by simpa using ha)⟩
  | z :: r, _, L, i + 1, x, h, e => by
    obtain ⟨y, t, L1, L2, e1, e2, h1, h2⟩ := h
    subst e1 e2
    obtain ⟨y2, A, M, B, f1, f2, f3, f4⟩ := EnvR.at (i := i) (x := x) h2 (by simpa using e)
    subst f2
    refine ⟨y2, L1 ++ A, M, B, by simpa using f1, by simp [List.append_assoc], f3, fun Hf' H' x' y' M' f k q => ?_⟩
    refine ⟨y, t.set i y', L1, A ++ M' ++ B, rfl, by simp [List.append_assoc], ?_, f4 Hf' H' x' y' M' f (fun a ha => k a ?_) q⟩
    · have one : EnvR K Hf' H0 H' [z] [y] L1 := EnvR.mono (H := H) f (fun a ha => k a (by simp [ha])) ⟨y, [], L1, [], rfl, by simp, h1, rfl, rfl⟩
      obtain ⟨y3, t3, A1, A2, g1, g2, g3, g4⟩ := one
      cases g1
      obtain ⟨g5, g6⟩ := g4
      subst g6
      rw [List.append_nil] at g2
      subst g2
      exact g3
    · simp only [List.mem_append] at ha ⊢
      rcases ha with ha | ha
      · exact .inl (.inr ha)
      · exact .inr ha
theorem EnvR.length : ∀ {r : Env} {s : St} {L : List Addr}, EnvR K Hf H0 H r s L → s.length = r.length
  | [], _, _, h => by rw [h.1]; rfl
  | x :: r, _, L, h => by
    obtain ⟨y, t, L1, L2, e1, e2, h1, h2⟩ := h
    subst e1
    simp [h2.length]
theorem Ext.nf {Hf H Hf' H' : Hp} (x : Ext Hf H Hf' H') {a : Addr} (h1 : H a ≠ none) (h2 : Hf a = none) : Hf' a = none := by
  cases q : Hf' a with
  | none => rfl
  | some o => exact absurd h2 (x.keep a h1 (by rw [q]; simp))
theorem Ext.fresh {Hf H Hf' H' : Hp} (x : Ext Hf H Hf' H') {a : Addr} (h : H' a = none) : H a = none := x.same.free h
theorem SR.sub {Hf0 : Hp} {r : Env} {s : St} {L : List Addr} (h : SR K Hf0 H0 r s Hf H L) : Same Hf H := h.ext.sub
theorem SR.mono {Hf0 : Hp} {r : Env} {s : St} {L : List Addr} (h : SR K Hf0 H0 r s Hf H L) (x : Ext Hf H Hf' H') : SR K Hf0 H0 r s Hf' H' L :=
  ⟨h.ext.trans x, h.env.mono x.fsame fun a _ u q => x.same a u q, h.nd, fun a ha => ⟨x.nf (h.ok a ha) (h.fr a ha).1, (h.fr a ha).2⟩, fun a ha => ne_none_of x.same (h.ok a ha)⟩
theorem ResR.mono {r : R} {v : V} {L : List Addr} (f : Same Hf Hf') (e : Same H H') (h : ResR K H0 Hf H r v L) : ResR K H0 Hf' H' r v L := by
  cases r with
  | nw o => exact RepO.mono f o v L (fun a _ u q => e a u q) h
  | vw o => exact ⟨RepV.mono f e o v h.1, h.2⟩
  | bw o => exact ⟨RepV.mono f (Same.refl _) o v h.1, h.2⟩
/-- a value as an argument: what is new is frozen -/
def R.a : R → O
  | .nw o => .fz (er o)
  | .vw o => o
  | .bw o => o
theorem Ext.add {L : List Addr} (x : Ext Hf H Hf' H') (n : Nw H Hf' H' L) : Ext Hf H (addF Hf' H' L) H' :=
  ⟨x.same, x.fsame.trans (addF_same fun a ha => (n.fr a ha).2.1), addF_sub x.sub, fun a h1 h2 => by
    by_cases ha : a ∈ L
    · exact absurd (n.fr a ha).1 h1
    · rw [addF_out ha] at h2
      exact x.keep a h1 h2⟩
theorem addF_nw {L : List Addr} (n : Nw H Hf' H' L) : Same Hf' (addF Hf' H' L) := addF_same fun a ha => (n.fr a ha).2.1
theorem ResR.arg {r : R} {v : V} {L : List Addr} (s0 : Same H0 H') (h : ResR K H0 Hf' H' r v L) (n : Nw H Hf' H' L) : RepV K (addF Hf' H' L) H' r.a v := by
  cases r with
  | nw o => exact RepO.frozen _ (addF_nw n) o v L (fun a ha => addF_in ha) h
  | vw o => exact RepV.mono (addF_nw n) (Same.refl _) o v h.1
  | bw o => exact RepV.mono (addF_nw n) s0 o v h.1
/-- the fields of a value that is seen -/
def see (own : Bool) : O → R
  | .fz d => .nw (.fz d)
  | .ls os => if own then .vw (.ls os) else .bw (.ls os)
  | .tp os => if own then .vw (.tp os) else .bw (.tp os)
end
end DL

namespace DL
open PySem L2
/-! items -/
def items : O → Option (List O)
  | .ls os => some os
  | .fz (.lst ds) => some (ds.map .fz)
  | .fz (.scr ns) => some (ns.map fun n => .fz (.int n))
  | _ => none
section
variable {K : PySem.W.Frag} {H0 H H' Hf Hf' : Hp}
theorem reps_fz : ∀ {ds : List D} {vs : List V}, Reps K Hf ds vs → RepVs K Hf H (ds.map .fz) vs
  | [], _, h => h
  | d :: ds, _, h => by
    obtain ⟨v, r, e, h1, h2⟩ := h
    exact ⟨v, r, e, h1, reps_fz h2⟩
theorem ints_fz : ∀ {ns : List Int}, RepVs K Hf H (ns.map fun n => .fz (.int n)) (ns.map V.int)
  | [] => rfl
  | n :: ns => ⟨_, _, rfl, rfl, ints_fz⟩
/-- a list that is seen -/
theorem items_rep {o : O} {os : List O} {v : V} (s : Same Hf H) (h : RepV K Hf H o v) (e : items o = some os) : ∃ a vs, v = .ref a ∧ SqL K H a vs ∧ RepVs K Hf H os vs := by
  cases o with
  | ls os' =>
    have e' : os' = os := Option.some.inj e
    subst e'
    obtain ⟨a, vs, e1, h1, h2⟩ := h
    exact ⟨a, vs, e1, SqL.of h1, h2⟩
  | tp _ => cases e
  | fz d =>
    cases d with
    | lst ds =>
      have e' : ds.map O.fz = os := Option.some.inj e
      subst e'
      obtain ⟨a, vs, e1, h1, h2⟩ := h
      exact ⟨a, vs, e1, SqL.of (s _ _ h1), reps_fz h2⟩
    | scr ns =>
      have e' : (ns.map fun n => O.fz (.int n)) = os := Option.some.inj e
      subst e'
      obtain ⟨a, e1, h1⟩ := h
      exact ⟨a, _, e1, s.seq h1, ints_fz⟩
    | non => cases e
    | bl b => cases e
    | int i => cases e
    | str x => cases e
    | ex c => cases e
    | tup ds => cases e
theorem RepVs.get : ∀ {os : List O} {vs : List V} {i : Nat} {o : O}, RepVs K Hf H os vs → os[i]? = some o → ∃ v, vs[i]? = some v ∧ RepV K Hf H o v
  | [], _, _, _, _, e => by simp at e
  | x :: os, _, 0, o, h, e => by
    obtain ⟨v, r, e1, h1, h2⟩ := h
    subst e1
    have e2 : x = o := by simpa using e
    subst e2
    exact ⟨v, rfl, h1⟩
  | x :: os, _, i + 1, o, h, e => by
    obtain ⟨v, r, e1, h1, h2⟩ := h
    subst e1
    obtain ⟨w, hw, hr⟩ := RepVs.get (i := i) (o := o) h2 (by simpa using e)
    exact ⟨w, by simpa using hw, hr⟩
/-! sequencing -/
structure Pst (c : Cn) (K : PySem.W.Frag) (s : St) {β : Type} (post : Hp → Hp → Res β → Prop) : Prop where
  bad : ∀ Hf H, ¬ post Hf H .bad
  exc : ∀ Hf H e, post Hf H (.exc e) → PostX c K s Hf H e
  mono : ∀ Hf H Hf' H' z, Ext Hf H Hf' H' → post Hf H z → post Hf' H' z
theorem PostX.mono {c : Cn} {s : St} {e : Ec} (x : Ext Hf H Hf' H') (h : PostX c K s Hf H e) : PostX c K s Hf' H' e := fun cls d Hf2 H2 y q => h cls d Hf2 H2 (x.trans y) q
theorem Nw.mono {L : List Addr} {H1 Hf2 H2 : Hp} (e : Same H H1) (n : Nw H1 Hf2 H2 L) : Nw H Hf2 H2 L := ⟨n.nd, fun a ha => ⟨e.free (n.fr a ha).1, (n.fr a ha).2⟩⟩
theorem pstE {c : Cn} {s : St} {Q : VK} : Pst c K s (fun Hf H z => PostE c K s Hf H Q z) where
  bad := fun _ _ h => h
  exc := fun _ _ _ h => h
  mono := fun Hf H Hf' H' z x h => by
    cases z with
    | ok r => exact fun v Hf2 H2 L y q n => h v Hf2 H2 L (x.trans y) q (n.mono x.same)
    | exc e => exact PostX.mono x h
    | bad => exact h
theorem pstT {c : Cn} {s : St} {Q : Bool → Hp → Prop} : Pst c K s (fun Hf H z => PostT c K s Hf H Q z) where
  bad := fun _ _ h => h
  exc := fun _ _ _ h => h
  mono := fun Hf H Hf' H' z x h => by
    cases z with
    | ok r => exact fun Hf2 H2 y => h Hf2 H2 (x.trans y)
    | exc e => exact PostX.mono x h
    | bad => exact h
theorem pstA {c : Cn} {s : St} {Q : List V → Hp → Prop} : Pst c K s (fun Hf H z => PostA c K s Hf H Q z) where
  bad := fun _ _ h => h
  exc := fun _ _ _ h => h
  mono := fun Hf H Hf' H' z x h => by
    cases z with
    | ok r => exact fun v Hf2 H2 y q => h v Hf2 H2 (x.trans y) q
    | exc e => exact PostX.mono x h
    | bad => exact h
/-- a value once what is new in it is frozen -/
def ArgR (K : PySem.W.Frag) (H0 Hf H : Hp) : R → V → Prop
  | .nw o, v => Rep K Hf (er o) v
  | .vw o, v => RepV K Hf H o v
  | .bw o, v => RepV K Hf H0 o v
theorem ArgR.a {r : R} {v : V} (s0 : Same H0 H) (h : ArgR K H0 Hf H r v) : RepV K Hf H r.a v := by
  cases r with
  | nw o => exact h
  | vw o => exact h
  | bw o => exact RepV.mono (Same.refl _) s0 o v h
theorem ArgR.mono {r : R} {v : V} (f : Same Hf Hf') (e : Same H H') (h : ArgR K H0 Hf H r v) : ArgR K H0 Hf' H' r v := by
  cases r with
  | nw o => exact Rep.mono f _ _ h
  | vw o => exact RepV.mono f e o v h
  | bw o => exact RepV.mono f (Same.refl _) o v h
theorem ResR.argR {r : R} {v : V} {L : List Addr} (h : ResR K H0 Hf' H' r v L) (n : Nw H Hf' H' L) : ArgR K H0 (addF Hf' H' L) H' r v := by
  cases r with
  | nw o => exact RepO.frozen _ (addF_nw n) o v L (fun a ha => addF_in ha) h
  | vw o => exact RepV.mono (addF_nw n) (Same.refl _) o v h.1
  | bw o => exact RepV.mono (addF_nw n) (Same.refl _) o v h.1
variable {c : Cn} {t : TE} {f : FE} {r : Env} {s : St} {L : List Addr} {tt : TT} {ft : Env → Res Bool} {ta : TA} {fa : Env → Res (List O)}
theorem SoE.run (h : SoE c K t f) (sr : c.SR K r s Hf H L) {β : Type} {post : Hp → Hp → Res β → Prop} (P : Pst c K s post) {k : R → Res β} (hp : post Hf H ((f r).bind k)) {Q : VK}
    (hq : ∀ x v Hf1 H1, Ext Hf H Hf1 H1 → c.SR K r s Hf1 H1 L → ArgR K c.H0 Hf1 H1 x v → post Hf1 H1 (k x) → Q v H1) : t s H Q := by
  refine h r s Hf H L sr Q ?_
  cases e : f r with
  | bad => rw [e] at hp; exact absurd hp (P.bad _ _)
  | exc e' => rw [e] at hp; exact P.exc _ _ _ hp
  | ok x =>
    rw [e] at hp
    intro v Hf1 H1 L1 x1 q n
    have x2 := x1.add n
    exact hq x v _ H1 x2 (sr.mono x2) (q.argR n) (P.mono _ _ _ _ _ x2 hp)
/-- .. the new value kept new -/
theorem SoE.runN (h : SoE c K t f) (sr : c.SR K r s Hf H L) {β : Type} {post : Hp → Hp → Res β → Prop} (P : Pst c K s post) {k : R → Res β} (hp : post Hf H ((f r).bind k)) {Q : VK}
    (hq : ∀ x v Hf1 H1 L1, Ext Hf H Hf1 H1 → c.SR K r s Hf1 H1 L → ResR K c.H0 Hf1 H1 x v L1 → Nw H Hf1 H1 L1 → post Hf1 H1 (k x) → Q v H1) : t s H Q := by
  refine h r s Hf H L sr Q ?_
  cases e : f r with
  | bad => rw [e] at hp; exact absurd hp (P.bad _ _)
  | exc e' => rw [e] at hp; exact P.exc _ _ _ hp
  | ok x =>
    rw [e] at hp
    intro v Hf1 H1 L1 x1 q n
    exact hq x v Hf1 H1 L1 x1 (sr.mono x1) q n (P.mono _ _ _ _ _ x1 hp)
theorem SoT.run (h : SoT c K tt ft) (sr : c.SR K r s Hf H L) {β : Type} {post : Hp → Hp → Res β → Prop} (P : Pst c K s post) {k : Bool → Res β} (hp : post Hf H ((ft r).bind k)) {Q : Bool → Hp → Prop}
    (hq : ∀ b Hf1 H1, Ext Hf H Hf1 H1 → c.SR K r s Hf1 H1 L → post Hf1 H1 (k b) → Q b H1) : tt s H Q := by
  refine h r s Hf H L sr Q ?_
  cases e : ft r with
  | bad => rw [e] at hp; exact absurd hp (P.bad _ _)
  | exc e' => rw [e] at hp; exact P.exc _ _ _ hp
  | ok x =>
    rw [e] at hp
    intro Hf1 H1 x1
    exact hq x Hf1 H1 x1 (sr.mono x1) (P.mono _ _ _ _ _ x1 hp)
theorem SoA.run (h : SoA c K ta fa) (sr : c.SR K r s Hf H L) {β : Type} {post : Hp → Hp → Res β → Prop} (P : Pst c K s post) {k : List O → Res β} (hp : post Hf H ((fa r).bind k)) {Q : List V → Hp → Prop}
    (hq : ∀ os vs Hf1 H1, Ext Hf H Hf1 H1 → c.SR K r s Hf1 H1 L → RepVs K Hf1 H1 os vs → post Hf1 H1 (k os) → Q vs H1) : ta s H Q := by
  refine h r s Hf H L sr Q ?_
  cases e : fa r with
  | bad => rw [e] at hp; exact absurd hp (P.bad _ _)
  | exc e' => rw [e] at hp; exact P.exc _ _ _ hp
  | ok x =>
    rw [e] at hp
    intro v Hf1 H1 x1 q
    exact hq x v Hf1 H1 x1 (sr.mono x1) q (P.mono _ _ _ _ _ x1 hp)
theorem SR.same0 (sr : c.SR K r s Hf H L) : Same c.H0 H := sr.ext.same
/-- what a rule hands back: frozen data -/
theorem postE_fz {d : D} {Q : VK} {v : V} (sub : Same Hf H) (h : PostE c K s Hf H Q (.ok (.nw (.fz d)))) (hr : Rep K Hf d v) : Q v H :=
  h v Hf H [] (Ext.refl sub) ⟨hr, rfl⟩ ⟨List.nodup_nil, fun _ h => nomatch h⟩
/-- .. a new list -/
theorem Ext.new {p : Addr} {o : HO} (sub : Same Hf H) (hp : H p = none) : Ext Hf H Hf (upd H p o) :=
  ⟨fun a u e => by rw [upd_ne (ne_of_none e hp)]; exact e, Same.refl _, fun a u e => by rw [upd_ne (ne_of_none (sub a u e) hp)]; exact sub a u e, fun _ _ h => h⟩
theorem sub_none (sub : Same Hf H) {p : Addr} (hp : H p = none) : Hf p = none := sub.free hp
def allFz : List O → Bool
  | [] => true
  | .fz _ :: r => allFz r
  | .ls _ :: _ => false
  | .tp _ :: _ => false
theorem repVs_O : ∀ {os : List O} {vs : List V}, allFz os = true → RepVs K Hf H os vs → RepOs K Hf H' os vs []
  | [], _, _, h => ⟨h, rfl⟩
  | .fz d :: os, _, e, h => by
    obtain ⟨v, r, e1, h1, h2⟩ := h
    exact ⟨v, r, [], [], e1, rfl, ⟨h1, rfl⟩, repVs_O (by exact e) h2⟩
  | .ls _ :: _, _, e, _ => by cases e
  | .tp _ :: _, _, e, _ => by cases e
theorem postE_ls {os : List O} {vs : List V} {Q : VK} {p : Addr} (sub : Same Hf H) (h : PostE c K s Hf H Q (.ok (.nw (.ls os)))) (ha : allFz os = true) (hr : RepVs K Hf H os vs) (hp : H p = none) : Q (.ref p) (upd H p (.lst vs)) :=
  h (.ref p) Hf _ [p] (Ext.new sub hp) ⟨p, vs, [], rfl, upd_same, repVs_O ha hr, rfl⟩ ⟨by simp, fun a ha => by
    have e : a = p := by simpa using ha
    subst e
    exact ⟨hp, sub_none sub hp, by rw [upd_same]; simp⟩⟩
theorem postE_tup {ds : List D} {vs : List V} {Q : VK} {p : Addr} (sub : Same Hf H) (h : PostE c K s Hf H Q (.ok (.nw (.fz (.tup ds))))) (hr : Reps K Hf ds vs) (hp : H p = none) : Q (.ref p) (upd H p (.tup vs)) := by
  have sub2 : Same (upd Hf p (.tup vs)) (upd H p (.tup vs)) := fun a u e => by
    by_cases ha : a = p
    · subst ha; rw [upd_same] at e ⊢; exact e
    · rw [upd_ne ha] at e ⊢; exact sub a u e
  have x : Ext Hf H (upd Hf p (.tup vs)) (upd H p (.tup vs)) := ⟨fun a u e => by rw [upd_ne (ne_of_none e hp)]; exact e, fun a u e => by rw [upd_ne (ne_of_none e (sub_none sub hp))]; exact e, sub2, fun a h1 h2 => by
    by_cases ha : a = p
    · subst ha; exact absurd hp h1
    · rw [upd_ne ha] at h2; exact h2⟩
  exact h (.ref p) _ _ [] x ⟨⟨p, vs, rfl, upd_same, Reps.mono x.fsame ds vs hr⟩, rfl⟩ ⟨List.nodup_nil, fun _ h => nomatch h⟩
end
end DL

namespace DL
open PySem L2
variable {c : Cn} {X : Cx} {a b e : Expr} {f g fa fb : FE} {pos : Pos}
/-! names, constants -/
def eVar (i : Nat) : FE := fun r => match r[i]? with
  | some (.vl w o) => .ok (see w o)
  | _ => .bad
def eC (d : D) : FE := fun _ => .ok (.nw (.fz d))
theorem de_var {i : Nat} (h : PE X e (tVar i)) : DE c X e (eVar i) := by
  refine ⟨tVar i, h, fun r s Hf H L sr Q q => ?_⟩
  cases er1 : r[i]? with
  | none => simp only [eVar, er1] at q; exact q.elim
  | some x =>
    cases x with
    | un => simp only [eVar, er1] at q; exact q.elim
    | vl w o =>
      simp only [eVar, er1] at q
      obtain ⟨y, L1, M, L2, h1, h2, h3, _⟩ := sr.env.at er1
      cases y with
      | none => cases w <;> exact h3.elim
      | some v =>
        refine ⟨v, h1, q v Hf H [] (Ext.refl sr.sub) ?_ ⟨List.nodup_nil, fun _ h => nomatch h⟩⟩
        cases w with
        | true =>
          have h4 := RepO.view o v M h3
          cases o with
          | fz d => exact ⟨h4, rfl⟩
          | ls os => exact ⟨h4, rfl⟩
          | tp os => exact ⟨h4, rfl⟩
        | false =>
          obtain ⟨h4, _⟩ := h3
          cases o with
          | fz d => exact ⟨h4, rfl⟩
          | ls os => exact ⟨h4, rfl⟩
          | tp os => exact ⟨h4, rfl⟩
theorem de_c {v : V} {d : D} (h : PE X e (tC v)) (hr : ∀ H, Rep X.K H d v) : DE c X e (eC d) :=
  ⟨tC v, h, fun r s Hf H L sr Q q => postE_fz sr.sub q (hr Hf)⟩
theorem de_int {i j} : DE c X (.Constant (.int i) j pos) (eC (.int i)) := de_c pe_int fun _ => rfl
theorem de_bl {b j} : DE c X (.Constant (.bool b) j pos) (eC (.bl b)) := de_c pe_bl fun _ => rfl
theorem de_non {j} : DE c X (.Constant .none j pos) (eC .non) := de_c pe_non fun _ => rfl
theorem de_str {x j} : DE c X (.Constant (.str x) j pos) (eC (.str x)) := de_c pe_str fun _ => rfl

/-! operators on values -/
/-- a two-place rule that hands back g of what it sees -/
def PureR (K : PySem.W.Frag) (rr : R2) (g : O → O → Res R) : Prop := ∀ (c : Cn) (s : St) (Hf H : Hp) (x y : V) (a b : O) (Q : VK), Same Hf H → RepV K Hf H a x → RepV K Hf H b y → PostE c K s Hf H Q (g a b) → rr x y H Q
def eOp (g : O → O → Res R) (fa fb : FE) : FE := fun r => (fa r).bind fun x => (fb r).bind fun y => g x.a y.a
theorem so_op {K : PySem.W.Frag} {rr : R2} {g : O → O → Res R} {ta tb : TE} (hg : PureR K rr g) (ha : SoE c K ta fa) (hb : SoE c K tb fb) : SoE c K (tOp rr ta tb) (eOp g fa fb) := fun r s Hf H L sr Q q => by
  refine ha.run sr pstE q fun x v Hf1 H1 x1 sr1 a1 q1 => ?_
  refine hb.run sr1 pstE q1 fun y w Hf2 H2 x2 sr2 a2 q2 => ?_
  exact hg c s Hf2 H2 v w _ _ Q sr2.sub ((a1.mono x2.fsame x2.same).a sr2.same0) (a2.a sr2.same0) q2
theorem de_op {op : Operator} {rr : R2} {g : O → O → Res R} (ho : OpR X (binaryOp op) rr) (hg : PureR X.K rr g) (ha : DE c X a fa) (hb : DE c X b fb) : DE c X (.BinOp a op b pos) (eOp g fa fb) := by
  obtain ⟨ta, pa, sa⟩ := ha.ex
  obtain ⟨tb, pb, sb⟩ := hb.ex
  exact ⟨tOp rr ta tb, pe_op ho pa pb, so_op hg sa sb⟩
theorem de_cmp {op : CmpOp} {rr : R2} {g : O → O → Res R} (ho : OpR X (compareOp op) rr) (hg : PureR X.K rr g) (ha : DE c X a fa) (hb : DE c X b fb) (hm : behindInMarks op b = false) : DE c X (.Compare a [op] [b] pos) (eOp g fa fb) := by
  obtain ⟨ta, pa, sa⟩ := ha.ex
  obtain ⟨tb, pb, sb⟩ := hb.ex
  exact ⟨tOp rr ta tb, pe_cmpR ho pa pb hm, so_op hg sa sb⟩
def toB (x : R) : Res Bool := match x.a with
  | .fz (.bl b) => .ok b
  | _ => .bad
def tOf (f : FE) : Env → Res Bool := fun r => (f r).bind toB
theorem so_test {K : PySem.W.Frag} {t : TE} (h : SoE c K t f) : SoT c K (tTest t) (tOf f) := fun r s Hf H L sr Q q => by
  refine h.run sr pstT q fun x v Hf1 H1 x1 sr1 a1 q1 => ?_
  have a2 := a1.a sr1.same0
  cases ex : x.a with
  | ls os => simp only [toB, ex] at q1; exact q1.elim
  | tp os => simp only [toB, ex] at q1; exact q1.elim
  | fz d =>
    rw [ex] at a2
    cases d with
    | bl b =>
      simp only [toB, ex] at q1
      exact ⟨b, a2, q1 Hf1 H1 (Ext.refl sr1.sub)⟩
    | non => simp only [toB, ex] at q1; exact q1.elim
    | int i => simp only [toB, ex] at q1; exact q1.elim
    | str i => simp only [toB, ex] at q1; exact q1.elim
    | ex _ => simp only [toB, ex] at q1; exact q1.elim
    | scr _ => simp only [toB, ex] at q1; exact q1.elim
    | lst _ => simp only [toB, ex] at q1; exact q1.elim
    | tup _ => simp only [toB, ex] at q1; exact q1.elim
theorem dt_cmp {op : CmpOp} {rr : R2} {g : O → O → Res R} (ho : OpR X (compareOp op) rr) (hg : PureR X.K rr g) (ha : DE c X a fa) (hb : DE c X b fb) (hm : behindInMarks op b = false) : DT c X (.Compare a [op] [b] pos) (tOf (eOp g fa fb)) := by
  obtain ⟨ta, pa, sa⟩ := ha.ex
  obtain ⟨tb, pb, sb⟩ := hb.ex
  exact ⟨tTest (tOp rr ta tb), pt_cmpR ho pa pb hm, so_test (so_op hg sa sb)⟩
/-- any expression that gives a truth value, as a test -/
theorem dt_val (h : DE c X e f) (he : ∀ whole, isTrue e X.env whole = (do let v ← whole; standAt e.pos; holding [v] (truthy v)) := by intro _; rfl) : DT c X e (tOf f) := by
  obtain ⟨t, p, s⟩ := h.ex
  exact ⟨tB t, pt_val p he, so_test s⟩
def tAndD (f g : Env → Res Bool) : Env → Res Bool := fun r => (f r).bind fun b => if b then g r else .ok false
def tOrD (f g : Env → Res Bool) : Env → Res Bool := fun r => (f r).bind fun b => if b then .ok true else g r
def tNotD (f : Env → Res Bool) : Env → Res Bool := fun r => (f r).bind fun b => .ok (!b)
variable {f1 f2 : Env → Res Bool} {rest : List Expr}
theorem dw_and1 (h : DT c X a f1) : DW c X (.BoolOp .And [a] pos) f1 := let ⟨t, p, s⟩ := h.ex; ⟨t, pw_and1 p, s⟩
theorem dw_or1 (h : DT c X a f1) : DW c X (.BoolOp .Or [a] pos) f1 := let ⟨t, p, s⟩ := h.ex; ⟨t, pw_or1 p, s⟩
theorem dw_and (h1 : DT c X a f1) (h2 : DW c X (.BoolOp .And (b :: rest) pos) f2) : DW c X (.BoolOp .And (a :: b :: rest) pos) (tAndD f1 f2) := by
  obtain ⟨t, p, s⟩ := h1.ex
  obtain ⟨u, p2, s2⟩ := h2.ex
  refine ⟨tAnd t u, pw_and p p2, fun r s' Hf H L sr Q q => ?_⟩
  refine s.run sr pstT q fun b Hf1 H1 x1 sr1 q1 => ?_
  cases b with
  | true => exact s2 r s' Hf1 H1 L sr1 Q q1
  | false => exact q1 Hf1 H1 (Ext.refl sr1.sub)
theorem dw_or (h1 : DT c X a f1) (h2 : DW c X (.BoolOp .Or (b :: rest) pos) f2) : DW c X (.BoolOp .Or (a :: b :: rest) pos) (tOrD f1 f2) := by
  obtain ⟨t, p, s⟩ := h1.ex
  obtain ⟨u, p2, s2⟩ := h2.ex
  refine ⟨tOr t u, pw_or p p2, fun r s' Hf H L sr Q q => ?_⟩
  refine s.run sr pstT q fun b Hf1 H1 x1 sr1 q1 => ?_
  cases b with
  | true => exact q1 Hf1 H1 (Ext.refl sr1.sub)
  | false => exact s2 r s' Hf1 H1 L sr1 Q q1
theorem dt_w (h : DW c X e f1) : DT c X e f1 := let ⟨t, p, s⟩ := h.ex; ⟨t, p.pt, s⟩
theorem dt_not (h : DT c X a f1) : DT c X (.UnaryOp .Not a pos) (tNotD f1) := by
  obtain ⟨t, p, s⟩ := h.ex
  refine ⟨tNot t, pt_not p, fun r s' Hf H L sr Q q => ?_⟩
  exact s.run sr pstT q fun b Hf1 H1 x1 sr1 q1 => q1 Hf1 H1 (Ext.refl sr1.sub)
/-- and, or, not as values -/
def onB {β : Type} (o : O) (k : Bool → Res β) : Res β := match o with
  | .fz (.bl b) => k b
  | _ => .bad
def eAnd (f g : FE) : FE := fun r => (f r).bind fun x => onB x.a fun b => if b then g r else .ok (.nw (.fz (.bl false)))
def eOr (f g : FE) : FE := fun r => (f r).bind fun x => onB x.a fun b => if b then .ok (.nw (.fz (.bl true))) else g r
def eNot (f : FE) : FE := fun r => (f r).bind fun x => onB x.a fun b => .ok (.nw (.fz (.bl (!b))))
theorem de_one {op} (h : DE c X a f) : DE c X (.BoolOp op [a] pos) f := let ⟨t, p, s⟩ := h.ex; ⟨t, pe_one p, s⟩
theorem bl_of {K : PySem.W.Frag} {Hf H : Hp} {o : O} {v : V} {c : Cn} {s : St} {Q : VK} {k : Bool → Res R} (h : RepV K Hf H o v)
    (q : PostE c K s Hf H Q (onB o k)) : ∃ b, v = .bl b ∧ PostE c K s Hf H Q (k b) := by
  cases o with
  | ls _ => exact q.elim
  | tp _ => exact q.elim
  | fz d =>
    cases d with
    | bl b => exact ⟨b, h, q⟩
    | non => exact q.elim
    | int i => exact q.elim
    | str i => exact q.elim
    | ex _ => exact q.elim
    | scr _ => exact q.elim
    | lst _ => exact q.elim
    | tup _ => exact q.elim
theorem de_and (h1 : DE c X a f) (h2 : DE c X (.BoolOp .And (b :: rest) pos) g) : DE c X (.BoolOp .And (a :: b :: rest) pos) (eAnd f g) := by
  obtain ⟨t, p, s⟩ := h1.ex
  obtain ⟨u, p2, s2⟩ := h2.ex
  refine ⟨tAndV t u, pe_and p p2, fun r s' Hf H L sr Q q => ?_⟩
  refine s.run sr pstE q fun x v Hf1 H1 x1 sr1 a1 q1 => ?_
  obtain ⟨b, e, q2⟩ := bl_of (a1.a sr1.same0) q1
  refine ⟨b, e, ?_⟩
  cases b with
  | true => exact s2 r s' Hf1 H1 L sr1 Q q2
  | false => exact postE_fz sr1.sub q2 rfl
theorem de_or (h1 : DE c X a f) (h2 : DE c X (.BoolOp .Or (b :: rest) pos) g) : DE c X (.BoolOp .Or (a :: b :: rest) pos) (eOr f g) := by
  obtain ⟨t, p, s⟩ := h1.ex
  obtain ⟨u, p2, s2⟩ := h2.ex
  refine ⟨tOrV t u, pe_or p p2, fun r s' Hf H L sr Q q => ?_⟩
  refine s.run sr pstE q fun x v Hf1 H1 x1 sr1 a1 q1 => ?_
  obtain ⟨b, e, q2⟩ := bl_of (a1.a sr1.same0) q1
  refine ⟨b, e, ?_⟩
  cases b with
  | true => exact postE_fz sr1.sub q2 rfl
  | false => exact s2 r s' Hf1 H1 L sr1 Q q2
theorem de_not (h1 : DE c X a f) : DE c X (.UnaryOp .Not a pos) (eNot f) := by
  obtain ⟨t, p, s⟩ := h1.ex
  refine ⟨tNotV t, pe_not p, fun r s' Hf H L sr Q q => ?_⟩
  refine s.run sr pstE q fun x v Hf1 H1 x1 sr1 a1 q1 => ?_
  obtain ⟨b, e, q2⟩ := bl_of (a1.a sr1.same0) q1
  exact ⟨b, e, postE_fz sr1.sub q2 rfl⟩
def eIf (ft : Env → Res Bool) (f g : FE) : FE := fun r => (ft r).bind fun b => if b then f r else g r
theorem de_if {t : Expr} (h : DT c X t f1) (ha : DE c X a f) (hb : DE c X b g) : DE c X (.IfExp t a b pos) (eIf f1 f g) := by
  obtain ⟨tt, p, s⟩ := h.ex
  obtain ⟨ta, pa, sa⟩ := ha.ex
  obtain ⟨tb, pb, sb⟩ := hb.ex
  refine ⟨tIf tt ta tb, pe_ifExp p pa pb, fun r s' Hf H L sr Q q => ?_⟩
  refine s.run sr pstE q fun b Hf1 H1 x1 sr1 q1 => ?_
  cases b with
  | true => exact sa r s' Hf1 H1 L sr1 Q q1
  | false => exact sb r s' Hf1 H1 L sr1 Q q1
/-! ints -/
def fzR (d : D) : Res R := .ok (.nw (.fz d))
def gInt (C : Int → Int → Bool) (h : Int → Int → D) : O → O → Res R
  | .fz (.int i), .fz (.int j) => if C i j then fzR (h i j) else .bad
  | _, _ => .bad
theorem int2 {K : PySem.W.Frag} {Hf H : Hp} {a b : O} {x y : V} {s : St} {Q : VK} {C : Int → Int → Bool} {h : Int → Int → D} (ha : RepV K Hf H a x) (hb : RepV K Hf H b y) (q : PostE c K s Hf H Q (gInt C h a b)) :
    ∃ i j, x = .int i ∧ y = .int j ∧ C i j = true ∧ PostE c K s Hf H Q (fzR (h i j)) := by
  cases a with
  | ls _ => exact q.elim
  | tp _ => exact q.elim
  | fz d =>
    cases d with
    | int i =>
      cases b with
      | ls _ => exact q.elim
      | tp _ => exact q.elim
      | fz d =>
        cases d with
        | int j =>
          refine ⟨i, j, ha, hb, ?_⟩
          simp only [gInt] at q
          by_cases hc : C i j = true
          · rw [if_pos hc] at q; exact ⟨hc, q⟩
          · rw [if_neg hc] at q; exact q.elim
        | _ => exact q.elim
    | _ => exact q.elim
theorem pure_I0 {K : PySem.W.Frag} {g : Int → Int → V} {h : Int → Int → D} (hh : ∀ i j H, Rep K H (h i j) (g i j)) : PureR K (rI0 g) (gInt (fun _ _ => true) h) := fun c s Hf H x y a b Q sub ha hb q => by
  obtain ⟨i, j, e1, e2, _, q⟩ := int2 ha hb q
  exact ⟨i, j, e1, e2, postE_fz sub q (hh i j Hf)⟩
theorem pure_I {K : PySem.W.Frag} {C : Int → Int → Bool} {C' : Int → Int → Prop} {g : Int → Int → V} {h : Int → Int → D} (hC : ∀ i j, C i j = true → C' i j) (hh : ∀ i j H, Rep K H (h i j) (g i j)) : PureR K (rI C' g) (gInt C h) := fun c s Hf H x y a b Q sub ha hb q => by
  obtain ⟨i, j, e1, e2, hc, q⟩ := int2 ha hb q
  exact ⟨i, j, e1, e2, hC i j hc, postE_fz sub q (hh i j Hf)⟩
def yes2 : Int → Int → Bool := fun _ _ => true
def gAdd := gInt yes2 fun i j => .int (i + j)
def gSub := gInt yes2 fun i j => .int (i - j)
/-- room for a product: together below a million bits -/
def mulOk (i j : Int) : Bool := decide (i.natAbs.log2 + j.natAbs.log2 < 1000000)
def gMul := gInt mulOk fun i j => .int (i * j)
def divOk (_ j : Int) : Bool := decide (j ≠ 0 ∧ j.natAbs.log2 < 9000)
def gDiv := gInt divOk fun i j => .int (i.fdiv j)
def modOk (_ j : Int) : Bool := decide (j ≠ 0)
def gMod := gInt modOk fun i j => .int (i.fmod j)
def powOk (i j : Int) : Bool := decide (0 ≤ j ∧ j ≤ 1000000 ∧ i.natAbs < 2 ^ 64)
def gPow := gInt powOk fun i j => .int (i ^ j.toNat)
def gLt := gInt yes2 fun i j => .bl (decide (i < j))
def gLe := gInt yes2 fun i j => .bl (decide (i ≤ j))
def gGt := gInt yes2 fun i j => .bl (decide (j < i))
def gGe := gInt yes2 fun i j => .bl (decide (j ≤ i))
theorem op_fdivD : OpR X (binaryOp .FloorDiv) (rI (fun _ j => j ≠ 0 ∧ j.natAbs.log2 < 9000) fun i j => .int (i.fdiv j)) := opI fun _ _ _ _ _ _ _ hc q => PyProof.Rows.floordiv_int hc.1 q (.inl (PyProof.noPylong_of_log2 hc.2))
theorem de_add (ha : DE c X a fa) (hb : DE c X b fb) : DE c X (.BinOp a .Add b pos) (eOp gAdd fa fb) := de_op op_add (pure_I0 fun _ _ _ => rfl) ha hb
theorem de_sub (ha : DE c X a fa) (hb : DE c X b fb) : DE c X (.BinOp a .Sub b pos) (eOp gSub fa fb) := de_op op_sub (pure_I0 fun _ _ _ => rfl) ha hb
theorem de_mul (ha : DE c X a fa) (hb : DE c X b fb) : DE c X (.BinOp a .Mult b pos) (eOp gMul fa fb) := de_op op_mulW (pure_I (fun i j h => by unfold CMulW; exact of_decide_eq_true h) fun _ _ _ => rfl) ha hb
theorem de_fdiv (ha : DE c X a fa) (hb : DE c X b fb) : DE c X (.BinOp a .FloorDiv b pos) (eOp gDiv fa fb) := de_op op_fdivD (pure_I (fun i j h => of_decide_eq_true h) fun _ _ _ => rfl) ha hb
theorem de_mod (ha : DE c X a fa) (hb : DE c X b fb) : DE c X (.BinOp a .Mod b pos) (eOp gMod fa fb) := de_op op_modN (pure_I (fun i j h => of_decide_eq_true h) fun _ _ _ => rfl) ha hb
theorem de_pow (ha : DE c X a fa) (hb : DE c X b fb) : DE c X (.BinOp a .Pow b pos) (eOp gPow fa fb) := de_op op_pow (pure_I (fun i j h => by unfold CPow; exact of_decide_eq_true h) fun _ _ _ => rfl) ha hb
theorem pu_lt : PureR X.K (rI0 fun i j => .bl (decide (i < j))) gLt := pure_I0 fun _ _ _ => rfl
theorem pu_le : PureR X.K (rI0 fun i j => .bl (decide (i ≤ j))) gLe := pure_I0 fun _ _ _ => rfl
theorem pu_gt : PureR X.K (rI0 fun i j => .bl (decide (j < i))) gGt := pure_I0 fun _ _ _ => rfl
theorem pu_ge : PureR X.K (rI0 fun i j => .bl (decide (j ≤ i))) gGe := pure_I0 fun _ _ _ => rfl
theorem dt_lt (ha : DE c X a fa) (hb : DE c X b fb) : DT c X (.Compare a [.Lt] [b] pos) (tOf (eOp gLt fa fb)) := dt_cmp op_lt pu_lt ha hb (nomark _)
theorem dt_le (ha : DE c X a fa) (hb : DE c X b fb) : DT c X (.Compare a [.LtE] [b] pos) (tOf (eOp gLe fa fb)) := dt_cmp op_le pu_le ha hb (nomark _)
theorem dt_gt (ha : DE c X a fa) (hb : DE c X b fb) : DT c X (.Compare a [.Gt] [b] pos) (tOf (eOp gGt fa fb)) := dt_cmp op_gt pu_gt ha hb (nomark _)
theorem dt_ge (ha : DE c X a fa) (hb : DE c X b fb) : DT c X (.Compare a [.GtE] [b] pos) (tOf (eOp gGe fa fb)) := dt_cmp op_ge pu_ge ha hb (nomark _)
theorem de_lt (ha : DE c X a fa) (hb : DE c X b fb) : DE c X (.Compare a [.Lt] [b] pos) (eOp gLt fa fb) := de_cmp op_lt pu_lt ha hb (nomark _)
theorem de_le (ha : DE c X a fa) (hb : DE c X b fb) : DE c X (.Compare a [.LtE] [b] pos) (eOp gLe fa fb) := de_cmp op_le pu_le ha hb (nomark _)
theorem de_gt (ha : DE c X a fa) (hb : DE c X b fb) : DE c X (.Compare a [.Gt] [b] pos) (eOp gGt fa fb) := de_cmp op_gt pu_gt ha hb (nomark _)
theorem de_ge (ha : DE c X a fa) (hb : DE c X b fb) : DE c X (.Compare a [.GtE] [b] pos) (eOp gGe fa fb) := de_cmp op_ge pu_ge ha hb (nomark _)
/-! one-place -/
def PureU (K : PySem.W.Frag) (rr : V → Hp → VK → Prop) (g : O → Res R) : Prop := ∀ (c : Cn) (s : St) (Hf H : Hp) (x : V) (a : O) (Q : VK), Same Hf H → RepV K Hf H a x → PostE c K s Hf H Q (g a) → rr x H Q
def eUn (g : O → Res R) (fa : FE) : FE := fun r => (fa r).bind fun x => g x.a
def gNeg : O → Res R
  | .fz (.int i) => fzR (.int (-i))
  | _ => .bad
theorem de_neg (ha : DE c X a fa) : DE c X (.UnaryOp .USub a pos) (eUn gNeg fa) := by
  obtain ⟨t, p, s⟩ := ha.ex
  refine ⟨tUn (rU fun i => .int (-i)) t, pe_un un_neg p, fun r s' Hf H L sr Q q => ?_⟩
  refine s.run sr pstE q fun x v Hf1 H1 x1 sr1 a1 q1 => ?_
  have a2 := a1.a sr1.same0
  revert q1 a2
  cases x.a with
  | ls _ => exact fun q _ => q.elim
  | tp _ => exact fun q _ => q.elim
  | fz d => cases d with
    | int i => exact fun q a2 => ⟨i, a2, postE_fz sr1.sub q rfl⟩
    | _ => exact fun q _ => q.elim
end DL

namespace DL
open PySem L2
variable {c : Cn} {X : Cx} {a b e : Expr} {es : List Expr} {f g fa fb : FE} {pos : Pos} {fs : Env → Res (List O)} {K : PySem.W.Frag} {H0 H H' Hf Hf' : Hp}
/-! arguments, displays -/
def aNil : Env → Res (List O) := fun _ => .ok []
def aCons (f : FE) (fs : Env → Res (List O)) : Env → Res (List O) := fun r => (f r).bind fun x => (fs r).bind fun xs => .ok (x.a :: xs)
theorem da_nil : DA c X [] aNil := ⟨tNil, pa_nil, fun r s Hf H L sr Q q => q [] Hf H (Ext.refl sr.sub) rfl⟩
theorem da_cons (h : DE c X e f) (hs : DA c X es fs) (hst : starEach (e :: es) X.env = (false, eval e X.env) :: starEach es X.env := by rfl) : DA c X (e :: es) (aCons f fs) := by
  obtain ⟨t, p, s⟩ := h.ex
  obtain ⟨ts, ps, ss⟩ := hs.ex
  refine ⟨tCons t ts, pa_cons p ps hst, fun r s' Hf H L sr Q q => ?_⟩
  refine s.run sr pstA q fun x v Hf1 H1 x1 sr1 a1 q1 => ?_
  refine ss.run sr1 pstA q1 fun os vs Hf2 H2 x2 sr2 a2 q2 => ?_
  exact q2 _ Hf2 H2 (Ext.refl sr2.sub) ⟨v, vs, rfl, (a1.mono x2.fsame x2.same).a sr2.same0, a2⟩
def eLst (fs : Env → Res (List O)) : FE := fun r => (fs r).bind fun os => if allFz os && decide (os.length ≤ 1000) then .ok (.nw (.ls os)) else .bad
theorem de_lst (h : DA c X es fs) : DE c X (.List es pos) (eLst fs) := by
  obtain ⟨t, p, s⟩ := h.ex
  refine ⟨tLst t, pe_lst p, fun r s' Hf H L sr Q q => ?_⟩
  refine s.run sr pstE q fun os vs Hf1 H1 x1 sr1 a1 q1 => ?_
  by_cases hc : (allFz os && decide (os.length ≤ 1000)) = true
  · rw [if_pos hc] at q1
    simp only [Bool.and_eq_true, decide_eq_true_eq] at hc
    exact ⟨by rw [RepVs.length a1]; exact Nat.le_trans hc.2 (by decide), fun p hp => postE_ls sr1.sub q1 hc.1 a1 hp⟩
  · rw [if_neg hc] at q1; exact q1.elim
def toDs : List O → Option (List D)
  | [] => some []
  | .fz d :: r => (toDs r).map (d :: ·)
  | .ls _ :: _ => none
  | .tp _ :: _ => none
theorem toDs_rep : ∀ {os : List O} {ds : List D} {vs : List V}, toDs os = some ds → RepVs K Hf H os vs → Reps K Hf ds vs
  | [], ds, vs, e, h => by
    have e' : ([] : List D) = ds := Option.some.inj e
    subst e'; exact h
  | .fz d :: os, ds, vs, e, h => by
    obtain ⟨v, r, e1, h1, h2⟩ := h
    cases e2 : toDs os with
    | none => simp [toDs, e2] at e
    | some r' =>
      have e' : d :: r' = ds := by simpa [toDs, e2] using e
      subst e'
      exact ⟨v, r, e1, h1, toDs_rep e2 h2⟩
  | .ls _ :: _, _, _, e, _ => by cases e
  | .tp _ :: _, _, _, e, _ => by cases e
def tupR (os : List O) : Res R := match toDs os with
  | some ds => if ds.length ≤ 1000 then .ok (.nw (.fz (.tup ds))) else .bad
  | none => .bad
def eTup (fs : Env → Res (List O)) : FE := fun r => (fs r).bind tupR
theorem de_tup {k} (h : DA c X es fs) : DE c X (.Tuple es k pos) (eTup fs) := by
  obtain ⟨t, p, s⟩ := h.ex
  refine ⟨tTup t, pe_tup p, fun r s' Hf H L sr Q q => ?_⟩
  refine s.run sr pstE q fun os vs Hf1 H1 x1 sr1 a1 q1 => ?_
  cases e : toDs os with
  | none => simp only [tupR, e] at q1; exact q1.elim
  | some ds =>
    simp only [tupR, e] at q1
    have a2 := toDs_rep e a1
    by_cases hc : ds.length ≤ 1000
    · rw [if_pos hc] at q1
      exact ⟨by rw [Reps.length a2]; exact Nat.le_trans hc (by decide), fun p hp => postE_tup sr1.sub q1 a2 hp⟩
    · rw [if_neg hc] at q1; exact q1.elim
/-! calls of built-ins, by values -/
def PureC (K : PySem.W.Frag) (rr : List V → Hp → VK → Prop) (g : List O → Res R) : Prop := ∀ (c : Cn) (s : St) (Hf H : Hp) (vs : List V) (os : List O) (Q : VK), Same Hf H → RepVs K Hf H os vs → PostE c K s Hf H Q (g os) → rr vs H Q
def eB (g : List O → Res R) (fs : Env → Res (List O)) : FE := fun r => (fs r).bind g
theorem so_B {rr : List V → Hp → VK → Prop} {g : List O → Res R} {t : TA} (hg : PureC K rr g) (h : SoA c K t fs) : SoE c K (tCB rr t) (eB g fs) := fun r s Hf H L sr Q q => by
  refine h.run sr pstE q fun os vs Hf1 H1 x1 sr1 a1 q1 => ?_
  exact hg c s Hf1 H1 vs os Q sr1.sub a1 q1
section
variable {x : Str} {p : Pos} {id : String} {rr : List V → Hp → VK → Prop} {gB : List O → Res R}
theorem de_B (hc : CallR X (.builtin id) rr) (hp : PureC X.K rr gB) (hg : Gl X x) (hm : X.mg x = none) (hv : bootBuiltins x = some (.builtin id)) (h : DA c X (e :: es) fs) (hn : x ≠ "__name__" := by decide) (hdb : (x == ("__debug__" : Str)) = false := by decide)
    (he : starEach (e :: es) X.env = (false, eval e X.env) :: starEach es X.env := by rfl) (hpl : (backTo pos (starEach es X.env)).any (·.1) = false := by rfl) : DE c X (.Call (.Name x p) (e :: es) [] pos) (eB gB fs) := by
  obtain ⟨t, pa, s⟩ := h.ex
  exact ⟨tCB rr t, pe_callB hc hg hm hv pa hn hdb he hpl, so_B hp s⟩
theorem de_Ty (hc : CallR X (.type id) rr) (hp : PureC X.K rr gB) (hg : Gl X x) (hm : X.mg x = none) (hv : bootBuiltins x = some (.type id)) (h : DA c X (e :: es) fs) (hn : x ≠ "__name__" := by decide) (hdb : (x == ("__debug__" : Str)) = false := by decide)
    (he : starEach (e :: es) X.env = (false, eval e X.env) :: starEach es X.env := by rfl) (hpl : (backTo pos (starEach es X.env)).any (·.1) = false := by rfl) : DE c X (.Call (.Name x p) (e :: es) [] pos) (eB gB fs) := by
  obtain ⟨t, pa, s⟩ := h.ex
  exact ⟨tCB rr t, pe_callTy hc hg hm hv pa hn hdb he hpl, so_B hp s⟩
end
/-! own calls -/
def spD (K : PySem.W.Frag) (n : Nat) (F : List O → Res O) : Sp := fun vs H Q E => ∃ Hf os, Same Hf H ∧ RepVs K Hf H os vs ∧ os.length = n ∧ match F os with
  | .ok o => ∀ v Hf' H' L, Ext Hf H Hf' H' → RepO K Hf' H' o v L → Nw H Hf' H' L → Q v H'
  | .exc e => ∀ cls d Hf' H', Ext Hf H Hf' H' → EcR K e cls d Hf' → E cls d H'
  | .bad => False
/-- a def of the program by the name x, of level k with n parameters, hands back F of what it is given -/
structure Def (P : Program) (w : World) (K : PySem.W.Frag) (mg : Str → Option Value) (base : Heap) (x : Str) (k n : Nat) (F : List O → Res O) : Prop where
  ex : ∃ f fd ps, FnOk P w K mg base (L2.CX P w) k f fd ps (spD K n F) ∧ mg x = some (.ref f) ∧ PySem.W.keepIn K (.ref f) = true ∧ Binds K fd ps [] ∧ ps.length = n
/-- what a body knows -/
structure Bk (c : Cn) (X : Cx) (k : Nat) : Prop where
  hr : Room k X.A
  tk : Takes X c.W
  po : PassesOwn (model X.prog X.w) X.A X.env X.xe
  calm : X.calm = true
def eCall (F : List O → Res O) (fs : Env → Res (List O)) : FE := fun r => (fs r).bind fun os => (F os).bind fun o => .ok (.nw o)
theorem de_call {x : Str} {p : Pos} {j k n : Nat} {F : List O → Res O} (G : Def X.prog X.w X.K X.mg X.base x j n F) (B : Bk c X k) (hj : j ≤ k) (hg : Gl X x) (h : DA c X (e :: es) fs) (hl : (e :: es).length = n)
    (hdb : (x == ("__debug__" : Str)) = false := by decide) (he : starEach (e :: es) X.env = (false, eval e X.env) :: starEach es X.env := by rfl) (hpl : (backTo pos (starEach es X.env)).any (·.1) = false := by rfl)
    (hlen : ∀ r os, fs r = .ok os → os.length = n) : DE c X (.Call (.Name x p) (e :: es) [] pos) (eCall F fs) := by
  obtain ⟨fa, fd, ps, Fo, hm, hk, hb, hn⟩ := G.ex
  obtain ⟨t, pa, s⟩ := h.ex
  refine ⟨tCallS (spD X.K n F) (WE c.W) t, pe_callS Fo (B.hr.mono hj) hg hm hk hb (fun σ => passAt B.tk σ) pa hdb he hpl, fun r s' Hf H L sr Q q => ?_⟩
  refine s r s' Hf H L sr _ ?_
  cases e0 : fs r with
  | bad => simp only [eCall, e0, Res.bind] at q; exact q.elim
  | exc e' => simp only [eCall, e0, Res.bind] at q; exact q
  | ok os =>
    simp only [eCall, e0, Res.bind] at q
    intro vs Hf1 H1 x1 a1
    refine ⟨Hf1, os, x1.sub, a1, hlen r os e0, ?_⟩
    cases e1 : F os with
    | bad => rw [e1] at q; exact q.elim
    | exc e' =>
      rw [e1] at q
      exact fun cls d Hf2 H2 x2 h2 => q cls d Hf2 H2 (x1.trans x2) h2
    | ok o =>
      rw [e1] at q
      exact fun v Hf2 H2 L2 x2 h2 n2 => q v Hf2 H2 L2 (x1.trans x2) h2 (n2.mono x1.same)
/-- how many arguments come -/
def Ar (fs : Env → Res (List O)) (n : Nat) : Prop := ∀ r os, fs r = .ok os → os.length = n
theorem ar_nil : Ar aNil 0 := fun r os e => by cases e; rfl
theorem ar_cons {n : Nat} (h : Ar fs n) : Ar (aCons f fs) (n + 1) := fun r os e => by
  cases e1 : f r with
  | bad => simp [aCons, e1, Res.bind] at e
  | exc _ => simp [aCons, e1, Res.bind] at e
  | ok x =>
    cases e2 : fs r with
    | bad => simp [aCons, e1, e2, Res.bind] at e
    | exc _ => simp [aCons, e1, e2, Res.bind] at e
    | ok xs =>
      simp [aCons, e1, e2, Res.bind] at e
      subst e
      simp [h r xs e2]
/-! statements -/
def sSeq (f g : FS) : FS := fun r => match f r with
  | .nx r' => g r'
  | o => o
def sNil : FS := fun r => .nx r
variable {F G : FS} {st : Stmt} {sts : List Stmt}
theorem dss_nil : DSs c X [] sNil := ⟨tNext, pss_nil, fun r s Hf H L sr D q => q s Hf H L (Same.refl _) sr⟩
theorem so_seq {t u : TS} (h1 : SoS c K t F) (h2 : SoS c K u G) : SoS c K (tSeq t u) (sSeq F G) := fun r s Hf H L sr D q => by
  refine h1 r s Hf H L sr _ ?_
  cases e : F r with
  | nx r' =>
    simp only [sSeq, e] at q
    exact fun s1 Hf1 H1 L1 f1 sr1 => h2 r' s1 Hf1 H1 L1 sr1 D (q.mono f1)
  | bk r' => simp only [sSeq, e] at q; exact q
  | ct r' => simp only [sSeq, e] at q; exact q
  | ret o => simp only [sSeq, e] at q; exact q
  | exc e' r' => simp only [sSeq, e] at q; exact q
  | bad => simp only [sSeq, e] at q; exact q.elim
theorem dss_cons (h1 : DS c X st F) (h2 : DSs c X sts G) : DSs c X (st :: sts) (sSeq F G) := by
  obtain ⟨t, p, s⟩ := h1.ex
  obtain ⟨u, p2, s2⟩ := h2.ex
  exact ⟨tSeq t u, pss_cons p p2, so_seq s s2⟩
theorem dss_one (h1 : DS c X st F) : DSs c X [st] F := let ⟨t, p, s⟩ := h1.ex; ⟨t, pss_one p, s⟩
/-- a value that a statement uses -/
def sUse (f : FE) (k : R → Env → Out) : FS := fun r => match f r with
  | .ok x => k x r
  | .exc e => .exc e r
  | .bad => .bad
theorem SoE.use {t : TE} {r : Env} {s : St} {L : List Addr} (h : SoE c K t f) (sr : c.SR K r s Hf H L) {k : R → Env → Out} {D : Ends} (q : PostS c K Hf D (sUse f k r)) {Q : VK}
    (hq : ∀ x v Hf1 H1 L1, Ext Hf H Hf1 H1 → c.SR K r s Hf1 H1 L → ResR K c.H0 Hf1 H1 x v L1 → Nw H Hf1 H1 L1 → PostS c K Hf1 D (k x r) → Q v H1) : t s H Q := by
  refine h r s Hf H L sr Q ?_
  cases e : f r with
  | bad => simp only [sUse, e] at q; exact q.elim
  | exc e' =>
    simp only [sUse, e] at q
    exact fun cls d Hf1 H1 x1 h1 => q s cls d Hf1 H1 L x1.fsame (sr.mono x1) h1
  | ok x =>
    simp only [sUse, e] at q
    exact fun v Hf1 H1 L1 x1 a1 n1 => hq x v Hf1 H1 L1 x1 (sr.mono x1) a1 n1 (q.mono x1.fsame)
theorem SoT.use {t : TT} {ft : Env → Res Bool} {r : Env} {s : St} {L : List Addr} (h : SoT c K t ft) (sr : c.SR K r s Hf H L) {k : Bool → Env → Out} {D : Ends}
    (q : PostS c K Hf D (match ft r with | .ok b => k b r | .exc e => .exc e r | .bad => .bad)) {Q : Bool → Hp → Prop}
    (hq : ∀ b Hf1 H1, Ext Hf H Hf1 H1 → c.SR K r s Hf1 H1 L → PostS c K Hf1 D (k b r) → Q b H1) : t s H Q := by
  refine h r s Hf H L sr Q ?_
  cases e : ft r with
  | bad => simp only [e] at q; exact q.elim
  | exc e' =>
    simp only [e] at q
    exact fun cls d Hf1 H1 x1 h1 => q s cls d Hf1 H1 L x1.fsame (sr.mono x1) h1
  | ok x =>
    simp only [e] at q
    exact fun Hf1 H1 x1 => hq x Hf1 H1 x1 (sr.mono x1) (q.mono x1.fsame)
/-- what is put at a name; own: it may be changed in place later -/
def put (own : Bool) : R → Option S
  | .nw o => some (.vl true (if own then o else .fz (er o)))
  | .vw _ => none
  | .bw o => some (.vl false o)
def setS (r : Env) (i : Nat) (x : Option S) : Out := match x with
  | some y => if i < r.length then .nx (r.set i y) else .bad
  | none => .bad
/-- a name takes a value -/
theorem SR.store {r : Env} {s : St} {L L1 : List Addr} {x : R} {v : V} {i : Nat} {own : Bool} {y : S} (sr : c.SR K r s Hf' H' L) (x1 : Ext Hf H Hf' H') (s0 : ∀ a, c.H0 a ≠ none → H a ≠ none) (hL : ∀ a ∈ L, H a ≠ none)
    (a1 : ResR K c.H0 Hf' H' x v L1) (n1 : Nw H Hf' H' L1) (hy : put own x = some y) (hi : i < r.length) : ∃ Hf2 L2, Same Hf' Hf2 ∧ c.SR K (r.set i y) (s.set i (some v)) Hf2 H' L2 := by
  obtain ⟨z, hz⟩ : ∃ z, r[i]? = some z := ⟨r[i], by simp [hi]⟩
  obtain ⟨w, A, M, B, h1, h2, h3, h4⟩ := sr.env.at hz
  have dis : ∀ a ∈ L1, a ∉ L := fun a ha hb => hL a hb (n1.fr a ha).1
  have nd2 : (A ++ B).Nodup := by
    have := sr.nd
    rw [h2] at this
    simp only [List.nodup_append, List.mem_append] at this ⊢
    obtain ⟨⟨n1, n2, n3⟩, n4, n5⟩ := this
    exact ⟨n1, n4, fun a ha b hb => n5 a (.inl ha) b hb⟩
  have sub2 : ∀ a ∈ A ++ B, a ∈ L := fun a ha => by
    rw [h2]; simp only [List.mem_append] at ha ⊢
    rcases ha with ha | ha
    · exact .inl (.inl ha)
    · exact .inr ha
  have key : ∀ (M' : List Addr) (Hf2 : Hp), Same Hf' Hf2 → SlotR K Hf2 c.H0 H' y (some v) M' → (∀ a ∈ M', a ∈ L1) → M'.Nodup → (∀ a ∈ M', Hf2 a = none) → (∀ a ∈ L, Hf2 a = none) → Ext c.Hf0 c.H0 Hf2 H' → c.SR K (r.set i y) (s.set i (some v)) Hf2 H' (A ++ M' ++ B) := fun M' Hf2 f q m1 m2 m3 m4 m5 => by
    refine ⟨m5, h4 Hf2 H' y (some v) M' f (fun _ _ _ e => e) q, ?_, fun a ha => ?_, fun a ha => ?_⟩
    · simp only [List.nodup_append, List.mem_append] at nd2 ⊢
      obtain ⟨n1', n2', n3'⟩ := nd2
      refine ⟨⟨n1', m2, fun a ha b hb e => ?_⟩, n2', fun a ha b hb e => ?_⟩
      · subst e; exact dis a (m1 a hb) (sub2 a (by simp [ha]))
      · subst e
        rcases ha with ha | ha
        · exact n3' a ha a hb rfl
        · exact dis a (m1 a ha) (sub2 a (by simp [hb]))
    · simp only [List.mem_append] at ha
      rcases ha with (ha | ha) | ha
      · exact ⟨m4 a (sub2 a (by simp [ha])), (sr.fr a (sub2 a (by simp [ha]))).2⟩
      · refine ⟨m3 a ha, ?_⟩
        cases e : c.H0 a with
        | none => rfl
        | some o => exact absurd (n1.fr a (m1 a ha)).1 (s0 a (by rw [e]; simp))
      · exact ⟨m4 a (sub2 a (by simp [ha])), (sr.fr a (sub2 a (by simp [ha]))).2⟩
    · simp only [List.mem_append] at ha
      rcases ha with (ha | ha) | ha
      · exact sr.ok a (sub2 a (by simp [ha]))
      · exact (n1.fr a (m1 a ha)).2.2
      · exact sr.ok a (sub2 a (by simp [ha]))
  cases x with
  | nw o =>
    cases own with
    | true =>
      simp only [put, if_true, Option.some.injEq] at hy
      subst hy
      exact ⟨Hf', _, Same.refl _, key L1 Hf' (Same.refl _) a1 (fun _ h => h) n1.nd (fun a ha => (n1.fr a ha).2.1) (fun a ha => (sr.fr a ha).1) sr.ext⟩
    | false =>
      simp only [put, Bool.false_eq_true, if_false, Option.some.injEq] at hy
      subst hy
      have f := addF_nw n1
      refine ⟨addF Hf' H' L1, _, f, key [] _ f ⟨RepO.frozen _ f o v L1 (fun a ha => addF_in ha) a1, rfl⟩ (fun _ h => nomatch h) List.nodup_nil (fun _ h => nomatch h) (fun a ha => ?_) ?_⟩
      · rw [addF_out fun hb => dis a hb ha]; exact (sr.fr a ha).1
      · have x2 := sr.ext
        refine ⟨x2.same, x2.fsame.trans f, addF_sub x2.sub, fun a h1 h2 => ?_⟩
        by_cases ha : a ∈ L1
        · exact absurd (n1.fr a ha).1 (s0 a h1)
        · rw [addF_out ha] at h2; exact x2.keep a h1 h2
  | vw o => cases hy
  | bw o =>
    simp only [put, Option.some.injEq] at hy
    subst hy
    exact ⟨Hf', _, Same.refl _, key [] Hf' (Same.refl _) ⟨a1.1, rfl⟩ (fun _ h => nomatch h) List.nodup_nil (fun _ h => nomatch h) (fun a ha => (sr.fr a ha).1) sr.ext⟩
end DL

namespace DL
open PySem L2
variable {c : Cn} {X : Cx} {a b e : Expr} {es : List Expr} {f g fa fb : FE} {pos : Pos} {fs : Env → Res (List O)} {K : PySem.W.Frag} {H0 H H' Hf Hf' : Hp} {F G : FS} {st : Stmt} {sts : List Stmt} {ft : Env → Res Bool}
theorem none_ne {H H' : Hp} (s : Same H H') : ∀ a, H a ≠ none → H' a ≠ none := fun a h => ne_none_of s h
/-! assignment -/
def sSet (i : Nat) (own : Bool) (f : FE) : FS := sUse f fun x r => setS r i (put own x)
theorem so_set {t : TE} {i : Nat} {own : Bool} (h : SoE c K t f) : SoS c K (tAsg t (gName i)) (sSet i own f) := fun r s Hf H L sr D q => by
  refine h.use sr q fun x v Hf1 H1 L1 x1 sr1 a1 n1 q1 => ?_
  cases e : put own x with
  | none => rw [e] at q1; exact q1.elim
  | some y =>
    rw [e] at q1
    by_cases hi : i < r.length
    · simp only [setS, if_pos hi] at q1
      obtain ⟨Hf2, L2, f2, sr2⟩ := sr1.store x1 (none_ne sr.ext.same) sr.ok a1 n1 e hi
      exact q1 _ _ _ _ f2 sr2
    · simp only [setS, if_neg hi] at q1; exact q1.elim
theorem ds_set {i : Nat} {x : Str} {pos' : Pos} (own : Bool) (hN : X.N.Nodup) (hi : X.N[i]? = some x) (hx : Loc X.env.scope x) (h : DE c X e f) (hs : swapsWith e (some (.Name x pos')) pos.line X.env = pure false := by rfl)
    (hf : X.fn x = true ∨ X.env.scope.names.lookup x = some .local := by first | exact .inl rfl | exact .inr rfl | assumption) : DS c X (.Assign [.Name x pos'] e pos) (sSet i own f) := by
  obtain ⟨t, p, s⟩ := h.ex
  exact ⟨tAsg t (gName i), ps_set hN hi hx p hs hf, so_set s⟩
/-! return, if, an expression alone -/
def retR : R → Out
  | .nw o => .ret o
  | _ => .bad
def sRet (f : FE) : FS := sUse f fun x _ => retR x
theorem ds_ret (h : DE c X e f) : DS c X (.Return (some e) pos) (sRet f) := by
  obtain ⟨t, p, s⟩ := h.ex
  refine ⟨tRet t, ps_ret p, fun r s' Hf H L sr D q => ?_⟩
  refine s.use sr q fun x v Hf1 H1 L1 x1 sr1 a1 n1 q1 => ?_
  cases x with
  | nw o => exact q1 v Hf1 H1 L1 sr1.ext a1 (n1.mono sr.ext.same)
  | vw _ => exact q1.elim
  | bw _ => exact q1.elim
/-- a name's own list is handed back -/
def sRetV (i : Nat) : FS := fun r => match r[i]? with
  | some (.vl true o) => .ret o
  | _ => .bad
theorem ds_retV {i : Nat} (h : PE X e (tVar i)) : DS c X (.Return (some e) pos) (sRetV i) := by
  refine ⟨tRet (tVar i), ps_ret h, fun r s Hf H L sr D q => ?_⟩
  cases er1 : r[i]? with
  | none => simp only [sRetV, er1] at q; exact q.elim
  | some x =>
    cases x with
    | un => simp only [sRetV, er1] at q; exact q.elim
    | vl w o =>
      cases w with
      | false => simp only [sRetV, er1] at q; exact q.elim
      | true =>
        simp only [sRetV, er1] at q
        obtain ⟨y, L1, M, L2, h1, h2, h3, _⟩ := sr.env.at er1
        cases y with
        | none => exact h3.elim
        | some v =>
          refine ⟨v, h1, q v Hf H M sr.ext h3 ⟨?_, fun a ha => ?_⟩⟩
          · have := sr.nd
            rw [h2] at this
            simp only [List.nodup_append] at this
            exact this.1.2.1
          · have ha' : a ∈ L := by rw [h2]; simp [ha]
            exact ⟨(sr.fr a ha').2, (sr.fr a ha').1, sr.ok a ha'⟩
def sRetN : FS := fun _ => .ret (.fz .non)
theorem ds_retN : DS c X (.Return none pos) sRetN := ⟨tRetN, ps_retN, fun r s Hf H L sr D q => q .non Hf H [] sr.ext ⟨rfl, rfl⟩ ⟨List.nodup_nil, fun _ h => nomatch h⟩⟩
def sIf (ft : Env → Res Bool) (F G : FS) : FS := fun r => match ft r with
  | .ok b => if b then F r else G r
  | .exc e => .exc e r
  | .bad => .bad
theorem ds_if {t : Expr} {xs ys : List Stmt} (h : DT c X t ft) (h1 : DSs c X xs F) (h2 : DSs c X ys G) : DS c X (.If t xs ys pos) (sIf ft F G) := by
  obtain ⟨tt, p, s⟩ := h.ex
  obtain ⟨u, p1, s1⟩ := h1.ex
  obtain ⟨w, p2, s2⟩ := h2.ex
  refine ⟨tIfS tt u w, ps_if p p1 p2, fun r s' Hf H L sr D q => ?_⟩
  refine s.use (k := fun b r => if b then F r else G r) sr q fun b Hf1 H1 x1 sr1 q1 => ?_
  cases b with
  | true => exact s1 r s' Hf1 H1 L sr1 D q1
  | false => exact s2 r s' Hf1 H1 L sr1 D q1
def sDrop (f : FE) : FS := sUse f fun _ r => .nx r
theorem ds_expr (h : DE c X e f) (hs : swapsWith e none pos.line X.env = pure false := by rfl) : DS c X (.Expr e pos) (sDrop f) := by
  obtain ⟨t, p, s⟩ := h.ex
  refine ⟨tDrop t, ps_expr p hs, fun r s' Hf H L sr D q => ?_⟩
  exact s.use sr q fun x v Hf1 H1 L1 x1 sr1 a1 n1 q1 => q1 s' Hf1 H1 L (Same.refl _) sr1
theorem ds_pass : DS c X (.Pass pos) sNil := ⟨tNext, ps_pass, fun r s Hf H L sr D q => q s Hf H L (Same.refl _) sr⟩
def sBrk : FS := fun r => .bk r
def sCnt : FS := fun r => .ct r
theorem ds_brk : DS c X (.Break pos) sBrk := ⟨tBreak, ps_break, fun r s Hf H L sr D q => q s Hf H L (Same.refl _) sr⟩
theorem ds_cnt : DS c X (.Continue pos) sCnt := ⟨tCont, ps_continue, fun r s Hf H L sr D q => q s Hf H L (Same.refl _) sr⟩
/-- what stands at a name -/
theorem SR.slot {r : Env} {s : St} {L : List Addr} {i : Nat} {w : Bool} {o : O} (sr : c.SR K r s Hf H L) (e : r[i]? = some (.vl w o)) : ∃ v, s[i]? = some (some v) ∧ RepV K Hf H o v := by
  obtain ⟨z, L1, M, L2, h1, h2', h3, _⟩ := sr.env.at e
  cases z with
  | none => cases w <;> exact h3.elim
  | some v =>
    cases w with
    | true => exact ⟨v, h1, RepO.view o v M h3⟩
    | false => exact ⟨v, h1, RepV.mono (Same.refl _) sr.ext.same o v h3.1⟩
/-! x op= e over ints -/
def sAug (i : Nat) (g : O → O → Res R) (f : FE) : FS := fun r => match r[i]? with
  | some (.vl _ o) => sUse f (fun x r => match g o x.a with
    | .ok z => setS r i (put false z)
    | _ => .bad) r
  | _ => .bad
theorem fz_new {d : D} {v : V} (h : Rep K Hf d v) : ResR K H0 Hf H (.nw (.fz d)) v [] := ⟨h, rfl⟩
theorem nw_nil {Hf' H' : Hp} : Nw H Hf' H' [] := ⟨List.nodup_nil, fun _ h => nomatch h⟩
theorem intO {o : O} {β : Type} {k : Int → β} {z : β} : (match o with | .fz (.int i) => k i | _ => z) = z ∨ ∃ i, o = .fz (.int i) := by
  cases o with
  | ls _ => exact .inl rfl
  | tp _ => exact .inl rfl
  | fz d => cases d with
    | int i => exact .inr ⟨i, rfl⟩
    | _ => exact .inl rfl
theorem gInt_ok {C : Int → Int → Bool} {h : Int → Int → D} {a b : O} {z : R} (e : gInt C h a b = .ok z) : ∃ i j, a = .fz (.int i) ∧ b = .fz (.int j) ∧ C i j = true ∧ z = .nw (.fz (h i j)) := by
  cases a with
  | ls _ => cases e
  | tp _ => cases e
  | fz d => cases d with
    | int i => cases b with
      | ls _ => cases e
      | tp _ => cases e
      | fz d => cases d with
        | int j =>
          simp only [gInt] at e
          by_cases hc : C i j = true
          · rw [if_pos hc] at e; cases e; exact ⟨i, j, rfl, rfl, hc, rfl⟩
          · rw [if_neg hc] at e; cases e
        | _ => cases e
    | _ => cases e
theorem ds_aug {i : Nat} {x : Str} {op : Operator} {h2 : Int → Int → Int} {pos' : Pos} (hN : X.N.Nodup) (hi : X.N[i]? = some x) (hx : Loc X.env.scope x) (ho : PIp X op (ipI h2)) (h : DE c X e f)
    (hf : X.fn x = true ∨ X.env.scope.names.lookup x = some .local := by first | exact .inl rfl | exact .inr rfl | assumption) : DS c X (.AugAssign (.Name x pos') op e pos) (sAug i (gInt yes2 fun i j => .int (h2 i j)) f) := by
  obtain ⟨t, p, s⟩ := h.ex
  refine ⟨tAug i t (ipI h2), ps_aug hN hi hx p ho hf, fun r s' Hf H L sr D q => ?_⟩
  cases er1 : r[i]? with
  | none => simp only [sAug, er1] at q; exact q.elim
  | some y =>
    cases y with
    | un => simp only [sAug, er1] at q; exact q.elim
    | vl w o =>
      simp only [sAug, er1] at q
      obtain ⟨v, hv, rv⟩ := sr.slot er1
      refine ⟨v, hv, ?_⟩
      refine s.use sr q fun x u Hf1 H1 L1 x1 sr1 a1 n1 q1 => ?_
      have a2 := (a1.argR n1).a (sr1.same0)
      cases eg : gInt yes2 (fun i j => DL.D.int (h2 i j)) o x.a with
      | bad => rw [eg] at q1; exact q1.elim
      | exc _ => rw [eg] at q1; exact q1.elim
      | ok z =>
        rw [eg] at q1
        obtain ⟨m, n, e1, e2, _, e3⟩ := gInt_ok eg
        subst e1 e3
        rw [e2] at a2
        refine ⟨m, n, rv, a2, ?_⟩
        by_cases hl : i < r.length
        · simp only [put, setS, if_pos hl] at q1
          obtain ⟨Hf2, L2, f2, sr2⟩ := sr1.store (own := false) (Ext.refl sr1.sub) (none_ne sr1.ext.same) sr1.ok (fz_new (K := X.K) (H0 := c.H0) (H := H1) (d := DL.D.int (h2 m n)) (v := V.int (h2 m n)) rfl) nw_nil rfl hl
          exact q1 _ _ _ _ f2 sr2
        · simp only [put, setS, if_neg hl] at q1; exact q1.elim
/-! a list of one's own is changed -/
/-- the list at a name gets other items -/
theorem SR.write {r : Env} {s : St} {L : List Addr} {i : Nat} {os : List O} (sr : c.SR K r s Hf H L) (e : r[i]? = some (.vl true (.ls os))) :
    ∃ p vs, s[i]? = some (some (.ref p)) ∧ H p = some (.lst vs) ∧ RepVs K Hf H os vs ∧ (∃ M, RepOs K Hf H os vs M) ∧ Hf p = none ∧ p ∈ L ∧
      (allFz os = true → ∀ Hf1 H1 os' vs', Ext Hf H Hf1 H1 → allFz os' = true → RepVs K Hf1 H1 os' vs' → ∃ L', c.SR K (r.set i (.vl true (.ls os'))) s Hf1 (upd H1 p (.lst vs')) L') := by
  obtain ⟨z, L1, M, L2, h1, h2, h3, h4⟩ := sr.env.at e
  cases z with
  | none => exact h3.elim
  | some v =>
    obtain ⟨p, vs, M', e1, e2, e3, e4⟩ := h3
    subst e1 e4
    have hpL : p ∈ L := by rw [h2]; simp
    refine ⟨p, vs, h1, e2, RepOs.view os vs M' e3, ⟨M', e3⟩, (sr.fr p hpL).1, hpL, fun hall Hf1 H1 os' vs' x1 hall' rv' => ?_⟩
    have sr1 := sr.mono x1
    have pn : ∀ a ∈ L1 ++ L2, a ≠ p := fun a ha e => by
      subst e
      have nd := sr.nd
      rw [h2] at nd
      simp only [List.nodup_append, List.mem_append, List.nodup_cons, List.mem_cons] at nd ha
      obtain ⟨⟨_, _, d1⟩, _, d2⟩ := nd
      rcases ha with ha | ha
      · exact d1 a ha a (.inl rfl) rfl
      · exact d2 a (.inr (.inl rfl)) a ha rfl
    have env' := h4 Hf1 (upd H1 p (.lst vs')) (.vl true (.ls os')) (some (.ref p)) [p] x1.fsame (fun a ha u q => by rw [upd_ne (pn a ha)]; exact x1.same a u q)
      ⟨p, vs', [], rfl, upd_same, repVs_O hall' rv', rfl⟩
    have es : s.set i (some (V.ref p)) = s := by
      obtain ⟨hl, hg⟩ := List.getElem?_eq_some_iff.mp h1
      rw [← hg]; exact List.set_getElem_self hl
    rw [es] at env'
    have hpf := (sr1.fr p hpL).1
    have hp0 := (sr.fr p hpL).2
    have sub' : ∀ a ∈ L1 ++ [p] ++ L2, a ∈ L := fun a ha => by
      rw [h2]; simp only [List.mem_append, List.mem_cons, List.mem_singleton, List.not_mem_nil, or_false] at ha ⊢
      rcases ha with (ha | ha) | ha
      · exact .inl (.inl ha)
      · exact .inl (.inr (.inl ha))
      · exact .inr ha
    refine ⟨L1 ++ [p] ++ L2, ⟨?_, ?_, ?_, ?_⟩, env', ?_, fun a ha => ⟨(sr1.fr a (sub' a ha)).1, (sr1.fr a (sub' a ha)).2⟩, fun a ha => ?_⟩
    · exact fun a u q => by rw [upd_ne (ne_of_none q hp0)]; exact sr1.ext.same a u q
    · exact sr1.ext.fsame
    · exact fun a u q => by rw [upd_ne (ne_of_none q hpf)]; exact sr1.ext.sub a u q
    · exact sr1.ext.keep
    · have nd := sr.nd
      rw [h2] at nd
      simp only [List.nodup_append, List.mem_append, List.nodup_cons, List.mem_cons] at nd
      obtain ⟨⟨n1, n2, d1⟩, n3, d2⟩ := nd
      simp only [List.nodup_append, List.mem_append, List.nodup_cons, List.mem_cons, List.mem_singleton, List.not_mem_nil, or_false]
      refine ⟨⟨n1, ⟨by simp, List.nodup_nil⟩, fun a ha b hb e => ?_⟩, n3, fun a ha b hb e => ?_⟩
      · subst hb; exact d1 a ha b (.inl rfl) e
      · rcases ha with ha | ha
        · exact d2 a (.inl ha) b hb e
        · exact d2 a (.inr (.inl ha)) b hb e
    · by_cases hp : a = p
      · subst hp; rw [upd_same]; simp
      · rw [upd_ne hp]; exact sr1.ok a (sub' a ha)
theorem RepVs.append : ∀ {os ps : List O} {vs ws : List V}, RepVs K Hf H os vs → RepVs K Hf H ps ws → RepVs K Hf H (os ++ ps) (vs ++ ws)
  | [], _, _, _, h, h2 => by have h' : _ = _ := h; subst h'; exact h2
  | o :: os, _, _, _, h, h2 => by
    obtain ⟨v, r, e, h3, h4⟩ := h
    subst e
    exact ⟨v, _, rfl, h3, RepVs.append h4 h2⟩
theorem RepVs.set : ∀ {os : List O} {vs : List V} {i : Nat} {o : O} {v : V}, RepVs K Hf H os vs → RepV K Hf H o v → RepVs K Hf H (os.set i o) (vs.set i v)
  | [], _, _, _, _, h, _ => by have h' : _ = _ := h; subst h'; rfl
  | x :: os, _, 0, _, _, h, h2 => by
    obtain ⟨v, r, e, h3, h4⟩ := h
    subst e
    exact ⟨_, r, rfl, h2, h4⟩
  | x :: os, _, i + 1, _, _, h, h2 => by
    obtain ⟨v, r, e, h3, h4⟩ := h
    subst e
    exact ⟨v, _, rfl, h3, RepVs.set h4 h2⟩
theorem RepVs.dropLast : ∀ {os : List O} {vs : List V}, RepVs K Hf H os vs → RepVs K Hf H os.dropLast vs.dropLast
  | [], _, h => by have h' : _ = _ := h; subst h'; rfl
  | [x], _, h => by
    obtain ⟨v, r, e, h3, h4⟩ := h
    have h' : r = [] := h4
    subst h'
    subst e
    rfl
  | x :: y :: os, _, h => by
    obtain ⟨v, r, e, h3, v2, r2, e2, h5, h6⟩ := h
    subst e2 e
    exact ⟨v, _, rfl, h3, RepVs.dropLast (os := y :: os) ⟨v2, r2, rfl, h5, h6⟩⟩
theorem allFz_append : ∀ {os ps : List O}, allFz (os ++ ps) = (allFz os && allFz ps)
  | [], _ => by simp [allFz]
  | .fz _ :: os, _ => by simp [allFz, allFz_append]
  | .ls _ :: os, _ => by simp [allFz]
  | .tp _ :: os, _ => by simp [allFz]
theorem allFz_set : ∀ {os : List O} {i : Nat} {d : D}, allFz os = true → allFz (os.set i (.fz d)) = true
  | [], _, _, _ => rfl
  | .fz _ :: os, 0, _, h => h
  | .fz x :: os, i + 1, _, h => allFz_set (os := os) h
  | .ls _ :: os, _, _, h => by cases h
  | .tp _ :: os, _, _, h => by cases h
theorem allFz_dropLast : ∀ {os : List O}, allFz os = true → allFz os.dropLast = true
  | [], _ => rfl
  | [x], _ => rfl
  | .fz x :: y :: os, h => allFz_dropLast (os := y :: os) h
  | .ls _ :: y :: os, h => by cases h
  | .tp _ :: y :: os, h => by cases h
/-- what may be laid in a list: frozen data -/
def asFz : O → Option O
  | .fz d => some (.fz d)
  | .ls _ => none
  | .tp _ => none
def onOwn (i : Nat) (r : Env) (k : List O → Out) : Out := match r[i]? with
  | some (.vl true (.ls os)) => if allFz os then k os else .bad
  | _ => .bad
theorem onOwn_of {i : Nat} {r : Env} {k : List O → Out} {D : Ends} {G : Hp} (q : PostS c K G D (onOwn i r k)) : ∃ os, r[i]? = some (.vl true (.ls os)) ∧ allFz os = true ∧ PostS c K G D (k os) := by
  unfold onOwn at q
  split at q
  · rename_i os e
    by_cases h : allFz os = true
    · rw [if_pos h] at q; exact ⟨os, e, h, q⟩
    · rw [if_neg h] at q; exact q.elim
  · exact q.elim
def sApp (i : Nat) (f : FE) : FS := fun r => onOwn i r fun os => sUse f (fun x r => match x.a with
    | .fz d => if os.length ≤ 100000 then .nx (r.set i (.vl true (.ls (os ++ [.fz d])))) else .bad
    | .ls _ => .bad
    | .tp _ => .bad) r
theorem ds_app {i : Nat} {o : Expr} {apos : Pos} {cpos : Pos} (hv : PE X o (tVar i)) (h : DE c X e f)
    (hbase : attributeBase o "append" X.env (eval o X.env) = eval o X.env := by rfl)
    (hfew : ((backTo cpos (starEach [e] X.env)).all (fun x => !x.1) && (backToKw cpos (keywordEach [] X.env)).all (fun x => x.1.isSome)
      && decide (([e] : List Expr).length + ([] : List Keyword).length + (if ([] : List Keyword).isEmpty then 0 else 1) < 30)) = true := by rfl)
    (hline : (apos.endLine == cpos.line) = true := by rfl) (hs : starEach [e] X.env = (false, eval e X.env) :: starEach [] X.env := by rfl) (hplain : (backTo cpos (starEach [] X.env)).any (·.1) = false := by rfl)
    (hsw : swapsWith (.Call (.Attribute o "append" apos) [e] [] cpos) none pos.line X.env = pure false := by rfl) : DS c X (.Expr (.Call (.Attribute o "append" apos) [e] [] cpos) pos) (sApp i f) := by
  obtain ⟨t, p, s⟩ := h.ex
  refine ⟨_, ps_expr (pe_bm PySem.F.plainAttrs_list PySem.F.slot_list_append PySem.F.type_list_append mt_append hv (pa_cons p pa_nil hs) hbase hfew hline hs hplain) hsw, fun r s' Hf H L sr D q => ?_⟩
  obtain ⟨os, eo, hall, q1⟩ := onOwn_of q
  obtain ⟨p, vs, h1, h2, h3, _, h4, h5, h6⟩ := sr.write eo
  refine ⟨_, h1, .inl ⟨rfl, vs, SqL.of h2⟩, ?_⟩
  refine s.use sr q1 fun x u Hf1 H1 L1 x1 sr1 a1 n1 q2 => ?_
  have a2 := (a1.argR n1).a sr1.same0
  have x2 := x1.add n1
  cases ex : x.a with
  | ls _ => simp only [ex] at q2; exact q2.elim
  | tp _ => simp only [ex] at q2; exact q2.elim
  | fz d =>
    simp only [ex] at q2
    rw [ex] at a2
    by_cases hl : os.length ≤ 100000
    · rw [if_pos hl] at q2
      have lv : vs.length = os.length := RepVs.length h3
      refine ⟨p, vs, u, rfl, rfl, x1.same _ _ h2, Nat.lt_of_le_of_lt (show vs.length ≤ 100000 by omega) (by decide), ?_⟩
      obtain ⟨L', sr2⟩ := h6 hall (addF Hf1 H1 L1) H1 (os ++ [.fz d]) (vs ++ [u]) x2 (by rw [allFz_append, hall]; rfl) ((RepVs.mono x2.fsame x2.same os vs h3).append ⟨u, [], rfl, a2, rfl⟩)
      exact q2 _ _ _ _ (addF_nw n1) sr2
    · rw [if_neg hl] at q2; exact q2.elim
/-- x.pop() alone -/
def sPop (i : Nat) : FS := fun r => onOwn i r fun os => if os.length = 0 then .bad else .nx (r.set i (.vl true (.ls os.dropLast)))
theorem ds_pop {i : Nat} {o : Expr} {apos : Pos} {cpos : Pos} (hv : PE X o (tVar i)) (hbase : attributeBase o "pop" X.env (eval o X.env) = eval o X.env := by rfl) (hline : (apos.endLine == cpos.line) = true := by rfl)
    (hsw : swapsWith (.Call (.Attribute o "pop" apos) [] [] cpos) none pos.line X.env = pure false := by rfl) : DS c X (.Expr (.Call (.Attribute o "pop" apos) [] [] cpos) pos) (sPop i) := by
  refine ⟨_, ps_expr (pe_bm0 PySem.F.plainAttrs_list PySem.F.slot_list_pop PySem.F.type_list_pop mt_pop hv hbase hline) hsw, fun r s' Hf H L sr D q => ?_⟩
  obtain ⟨os, eo, hall, q1⟩ := onOwn_of q
  obtain ⟨p, vs, h1, h2, h3, _, h4, h5, h6⟩ := sr.write eo
  by_cases hz : os.length = 0
  · rw [if_pos hz] at q1; exact q1.elim
  · rw [if_neg hz] at q1
    have lv : vs.length = os.length := RepVs.length h3
    have hlt : vs.length - 1 < vs.length := by omega
    refine ⟨_, h1, .inl ⟨rfl, vs, SqL.of h2⟩, p, vs, vs[vs.length - 1], rfl, rfl, h2, by simp [hlt], ?_⟩
    obtain ⟨L', sr2⟩ := h6 hall Hf H os.dropLast vs.dropLast (Ext.refl sr.sub) (allFz_dropLast hall) (RepVs.dropLast h3)
    exact q1 _ _ _ _ (Same.refl _) sr2
/-- x.clear() -/
def sClear (i : Nat) : FS := fun r => onOwn i r fun _ => .nx (r.set i (.vl true (.ls [])))
theorem ds_clear {i : Nat} {o : Expr} {apos : Pos} {cpos : Pos} (hv : PE X o (tVar i)) (hbase : attributeBase o "clear" X.env (eval o X.env) = eval o X.env := by rfl) (hline : (apos.endLine == cpos.line) = true := by rfl)
    (hsw : swapsWith (.Call (.Attribute o "clear" apos) [] [] cpos) none pos.line X.env = pure false := by rfl) : DS c X (.Expr (.Call (.Attribute o "clear" apos) [] [] cpos) pos) (sClear i) := by
  refine ⟨_, ps_expr (pe_bm0 PySem.F.plainAttrs_list PySem.F.slot_list_clear PySem.F.type_list_clear mt_clear hv hbase hline) hsw, fun r s' Hf H L sr D q => ?_⟩
  obtain ⟨os, eo, hall, q1⟩ := onOwn_of q
  obtain ⟨p, vs, h1, h2, h3, _, h4, h5, h6⟩ := sr.write eo
  refine ⟨_, h1, .inl ⟨rfl, vs, SqL.of h2⟩, p, vs, rfl, rfl, h2, ?_⟩
  obtain ⟨L', sr2⟩ := h6 hall Hf H [] [] (Ext.refl sr.sub) rfl rfl
  exact q1 _ _ _ _ (Same.refl _) sr2
/-- x[e1] = e2: the value first, then the index -/
def sPut (i : Nat) (f g : FE) : FS := sUse f fun x r => onOwn i r fun os => sUse g (fun y r => match x.a, y.a with
    | .fz d, .fz (.int k) => (match ixN os.length k with
      | some j => .nx (r.set i (.vl true (.ls (os.set j (.fz d)))))
      | none => .bad)
    | _, _ => .bad) r
theorem ds_put0 {i : Nat} {o ei ev : Expr} {p1 : Pos} (hv : PE X o (tVar i)) (h : DE c X ev f) (h2 : DE c X ei g) :
    ∀ (_ : ∀ (t ti : TE), PE X ev t → PE X ei ti → PS X (.Assign [.Subscript o ei p1] ev pos) (tAsg t (L2.gSub (tVar i) ti rSetL))), DS c X (.Assign [.Subscript o ei p1] ev pos) (sPut i f g) := fun mk => by
  obtain ⟨t, p, s⟩ := h.ex
  obtain ⟨ti, pi, si⟩ := h2.ex
  refine ⟨_, mk t ti p pi, fun r s' Hf H L sr D q => ?_⟩
  refine s.use sr q fun x u Hf1 H1 L1 x1 sr1 a1 n1 q1 => ?_
  have x2 := x1.add n1
  have sr2 := sr.mono x2
  have a2 := (a1.argR n1).a sr1.same0
  obtain ⟨os, eo, hall, q2⟩ := onOwn_of q1
  obtain ⟨p, vs, g1, g2, g3, _, g4, g5, g6⟩ := sr2.write eo
  refine ⟨_, g1, ?_⟩
  refine si.use sr2 (q2.mono (addF_nw n1)) fun y w Hf2 H2 L2 y1 sr3 b1 m1 q3 => ?_
  have b2 := (b1.argR m1).a sr3.same0
  have y2 := y1.add m1
  cases ex : x.a with
  | ls _ => simp only [ex] at q3; exact q3.elim
  | tp _ => simp only [ex] at q3; exact q3.elim
  | fz d =>
    cases ey : y.a with
    | ls _ => simp only [ex, ey] at q3; exact q3.elim
    | tp _ => simp only [ex, ey] at q3; exact q3.elim
    | fz d2 =>
      cases d2 with
      | int k =>
        simp only [ex, ey] at q3
        cases ek : ixN os.length k with
        | none => simp only [ek] at q3; exact q3.elim
        | some j =>
          simp only [ek] at q3
          rw [ex] at a2
          rw [ey] at b2
          have lv : vs.length = os.length := RepVs.length g3
          refine ⟨p, vs, k, j, rfl, b2, y1.same _ _ g2, by rw [lv]; exact ek, ?_⟩
          obtain ⟨L', sr4⟩ := g6 hall _ H2 (os.set j (.fz d)) (vs.set j u) y2 (allFz_set hall) ((RepVs.mono y2.fsame y2.same os vs g3).set (RepV.mono y2.fsame y2.same _ _ a2))
          exact q3 _ _ _ _ (addF_nw m1) sr4
      | _ => simp only [ex, ey] at q3; exact q3.elim
theorem ds_put {i : Nat} {o ei ev : Expr} {p1 : Pos} (hv : PE X o (tVar i)) (h : DE c X ev f) (h2 : DE c X ei g)
    (ha : ∀ v, assign (.Subscript o ei p1) X.env v = (do
      let ov ← holding [v] (eval o X.env)
      let iv ← holding [v, ov] (eval ei X.env)
      standAt p1
      holding [v, ov, iv] (setItem ov iv v)
      release [v, ov, iv] []) := by intro _; rfl)
    (hs : swapsWithSole [.Subscript o ei p1] ev pos.line X.env = pure false := by rfl) (hw : swappedStores [.Subscript o ei p1] ev X.env = pure none := by rfl)
    (h1 : (assignEach [.Subscript o ei p1] X.env).map (·.2) = [assign (.Subscript o ei p1) X.env] := by rfl) : DS c X (.Assign [.Subscript o ei p1] ev pos) (sPut i f g) :=
  ds_put0 hv h h2 fun t ti pt pi => ps_asg pt (pg_sub hv pi set_list ha) hs hw h1
end DL

namespace DL
open PySem L2
variable {c : Cn} {X : Cx} {a b e : Expr} {es : List Expr} {f g fa fb : FE} {pos : Pos} {fs : Env → Res (List O)} {K : PySem.W.Frag} {H0 H H' Hf Hf' : Hp} {F G : FS} {st : Stmt} {sts : List Stmt} {ft : Env → Res Bool}
/-! while -/
def whl (ft : Env → Res Bool) (F : FS) : Nat → Env → Out
  | 0, _ => .bad
  | n + 1, r => match ft r with
    | .ok true => (match F r with
      | .nx r' => whl ft F n r'
      | .ct r' => whl ft F n r'
      | .bk r' => .nx r'
      | o => o)
    | .ok false => .nx r
    | .exc e => .exc e r
    | .bad => .bad
def sWh (fuel : Env → Nat) (ft : Env → Res Bool) (F : FS) : FS := fun r => whl ft F (fuel r) r
theorem so_wh {tt : TT} {tb : TS} {fuel : Env → Nat} (h : SoT c K tt ft) (hb : SoS c K tb F) : SoS c K (tWhile tt tb) (sWh fuel ft F) := fun r s Hf0 H L sr D q => by
  refine ⟨fun m s H => ∃ r Hf L, c.SR K r s Hf H L ∧ PostS c K Hf D (whl ft F m r), ⟨fuel r, r, Hf0, L, sr, q⟩, ?_⟩
  rintro m s H ⟨r, Hf, L, sr, q⟩
  cases m with
  | zero => exact q.elim
  | succ m =>
    have q' : PostS c K Hf D (match ft r with
      | .ok b => (fun (b : Bool) (r : Env) => if b then (match F r with
        | .nx r' => whl ft F m r'
        | .ct r' => whl ft F m r'
        | .bk r' => .nx r'
        | o => o) else .nx r) b r
      | .exc e => .exc e r
      | .bad => .bad) := by
      unfold whl at q
      cases e : ft r with
      | ok b => rw [e] at q; cases b <;> exact q
      | exc _ => rw [e] at q; exact q
      | bad => rw [e] at q; exact q
    refine h.use (k := fun (b : Bool) (r : Env) => if b then (match F r with
        | .nx r' => whl ft F m r'
        | .ct r' => whl ft F m r'
        | .bk r' => .nx r'
        | o => o) else .nx r) sr q' fun b Hf1 H1 x1 sr1 q1 => ?_
    cases b with
    | false => exact q1 s Hf1 H1 L (Same.refl _) sr1
    | true =>
      refine ⟨fun s' H' => ∃ m', m' < m + 1 ∧ ∃ r Hf L, c.SR K r s' Hf H' L ∧ PostS c K Hf D (whl ft F m' r), fun _ _ h => h, ?_⟩
      have q2 : PostS c K Hf1 D (match F r with
        | .nx r' => whl ft F m r'
        | .ct r' => whl ft F m r'
        | .bk r' => .nx r'
        | o => o) := q1
      refine hb r s Hf1 H1 L sr1 _ ?_
      cases e : F r with
      | nx r' => rw [e] at q2; exact fun s2 Hf2 H2 L2 f2 sr2 => ⟨m, Nat.lt_succ_self m, r', Hf2, L2, sr2, q2.mono f2⟩
      | ct r' => rw [e] at q2; exact fun s2 Hf2 H2 L2 f2 sr2 => ⟨m, Nat.lt_succ_self m, r', Hf2, L2, sr2, q2.mono f2⟩
      | bk r' => rw [e] at q2; exact q2
      | ret o => rw [e] at q2; exact q2
      | exc e' r' => rw [e] at q2; exact q2
      | bad => rw [e] at q2; exact q2
theorem ds_wh {k : Nat} {t : Expr} (fuel : Env → Nat) (B : Bk c X k) (h : DT c X t ft) (hb : DSs c X sts F) : DS c X (.While t sts [] pos) (sWh fuel ft F) := by
  obtain ⟨tt, p, s⟩ := h.ex
  obtain ⟨tb, pb, sb⟩ := hb.ex
  exact ⟨tWhile tt tb, ps_while B.po p pb, so_wh s sb⟩
/-! targets -/
abbrev FG := R → Env → Option Env
/-- a target that changes no other slots than those at vs -/
def SoG (c : Cn) (K : PySem.W.Frag) (t : TG) (fg : FG) (vs : List Nat) : Prop := ∀ x v r r1 s Hf H L, c.SR K r s Hf H L → ArgR K c.H0 Hf H x v → fg x r = some r1 → ∀ Q : St → Hp → Prop,
  (∀ s1 L1, c.SR K r1 s1 Hf H L1 → wipe s1 vs = wipe s vs → Q s1 H) → t v s H Q
def gN (i : Nat) : FG := fun x r => match (match x with | .nw o => some (S.vl true (.fz (er o))) | .vw _ => none | .bw o => some (S.vl false o)) with
  | some y => if i < r.length then some (r.set i y) else none
  | none => none
theorem SR.storeA {r : Env} {s : St} {L : List Addr} {x : R} {v : V} {i : Nat} {r1 : Env} (sr : c.SR K r s Hf H L) (a1 : ArgR K c.H0 Hf H x v) (e : gN i x r = some r1) : ∃ L1, c.SR K r1 (s.set i (some v)) Hf H L1 := by
  have go : ∀ (x : R), ResR K c.H0 Hf H x v [] → ∀ y, put false x = some y → i < r.length → ∃ Hf2 L2, Same Hf Hf2 ∧ c.SR K (r.set i y) (s.set i (some v)) Hf2 H L2 := fun x a y hy hi =>
    sr.store (own := false) (Ext.refl sr.sub) (none_ne sr.ext.same) sr.ok a nw_nil hy hi
  -- frozen data and lent data: nothing new is frozen, so the frozen heap may stay
  cases x with
  | vw o => cases e
  | nw o =>
    simp only [gN] at e
    by_cases hi : i < r.length
    · rw [if_pos hi] at e
      cases e
      obtain ⟨z, hz⟩ : ∃ z, r[i]? = some z := ⟨r[i], by simp [hi]⟩
      obtain ⟨w, A, M, B, h1, h2, h3, h4⟩ := sr.env.at hz
      have sub2 : ∀ a ∈ A ++ [] ++ B, a ∈ L := fun a ha => by
        rw [h2]; simp only [List.mem_append, List.not_mem_nil, or_false] at ha ⊢
        rcases ha with ha | ha
        · exact .inl (.inl ha)
        · exact .inr ha
      refine ⟨A ++ [] ++ B, sr.ext, h4 Hf H _ _ [] (Same.refl _) (fun _ _ _ e => e) ⟨a1, rfl⟩, ?_, fun a ha => sr.fr a (sub2 a ha), fun a ha => sr.ok a (sub2 a ha)⟩
      have nd := sr.nd
      rw [h2] at nd
      simp only [List.nodup_append, List.mem_append] at nd
      simp only [List.append_nil, List.nodup_append]
      obtain ⟨⟨n1, n2, d1⟩, n3, d2⟩ := nd
      exact ⟨n1, n3, fun a ha b hb => d2 a (.inl ha) b hb⟩
    · rw [if_neg hi] at e; cases e
  | bw o =>
    simp only [gN] at e
    by_cases hi : i < r.length
    · rw [if_pos hi] at e
      cases e
      obtain ⟨z, hz⟩ : ∃ z, r[i]? = some z := ⟨r[i], by simp [hi]⟩
      obtain ⟨w, A, M, B, h1, h2, h3, h4⟩ := sr.env.at hz
      have sub2 : ∀ a ∈ A ++ [] ++ B, a ∈ L := fun a ha => by
        rw [h2]; simp only [List.mem_append, List.not_mem_nil, or_false] at ha ⊢
        rcases ha with ha | ha
        · exact .inl (.inl ha)
        · exact .inr ha
      refine ⟨A ++ [] ++ B, sr.ext, h4 Hf H _ _ [] (Same.refl _) (fun _ _ _ e => e) ⟨a1, rfl⟩, ?_, fun a ha => sr.fr a (sub2 a ha), fun a ha => sr.ok a (sub2 a ha)⟩
      have nd := sr.nd
      rw [h2] at nd
      simp only [List.nodup_append, List.mem_append] at nd
      simp only [List.append_nil, List.nodup_append]
      obtain ⟨⟨n1, n2, d1⟩, n3, d2⟩ := nd
      exact ⟨n1, n3, fun a ha b hb => d2 a (.inl ha) b hb⟩
    · rw [if_neg hi] at e; cases e
theorem wipe_set {s : St} {i : Nat} {v : Option V} : ∀ {vs : List Nat}, i ∈ vs → wipe (s.set i v) vs = wipe s vs
  | [], h => by simp at h
  | j :: vs, h => by
    show (wipe (s.set i v) vs).set j none = (wipe s vs).set j none
    by_cases hj : i ∈ vs
    · rw [wipe_set hj]
    · have e : i = j := by simpa [hj] using h
      subst e
      have key : ∀ {vs : List Nat} {s : St}, i ∉ vs → wipe (s.set i v) vs = (wipe s vs).set i v := by
        intro vs
        induction vs with
        | nil => intro s _; rfl
        | cons k vs ih =>
          intro s hk
          simp only [List.mem_cons, not_or] at hk
          show (wipe (s.set i v) vs).set k none = ((wipe s vs).set k none).set i v
          rw [ih hk.2, List.set_comm _ _ hk.1]
      rw [key hj, List.set_set]
theorem so_gN {i : Nat} {vs : List Nat} (h : i ∈ vs) : SoG c K (gName i) (gN i) vs := fun x v r r1 s Hf H L sr a1 e Q q => by
  obtain ⟨L1, sr1⟩ := sr.storeA a1 e
  exact q _ L1 sr1 (wipe_set h)
structure DG (c : Cn) (X : Cx) (tg : Expr) (fg : FG) (vs : List Nat) : Prop where
  ex : ∃ t, PG X tg t ∧ SoG c X.K t fg vs
theorem dg_name {i : Nat} {x : Str} {vs : List Nat} (hN : X.N.Nodup) (hi : X.N[i]? = some x) (hx : Loc X.env.scope x) (hv : i ∈ vs := by simp) (hf : X.fn x = true ∨ X.env.scope.names.lookup x = some .local := by first | exact .inl rfl | exact .inr rfl | assumption) : DG c X (.Name x pos) (gN i) vs :=
  ⟨gName i, pg_name hN hi hx hf, so_gN hv⟩
/-- several names -/
def gL : List FG → List D → Env → Option Env
  | [], [], r => some r
  | g :: gs, d :: ds, r => (g (.nw (.fz d)) r).bind fun r1 => gL gs ds r1
  | _, _, _ => none
def SoGs (c : Cn) (K : PySem.W.Frag) (t : TGs) (gs : List FG) (vs : List Nat) : Prop := ∀ ds ws r r1 s Hf H L, c.SR K r s Hf H L → Reps K Hf ds ws → gL gs ds r = some r1 → ∀ Q : St → Hp → Prop,
  (∀ s1 L1, c.SR K r1 s1 Hf H L1 → wipe s1 vs = wipe s vs → Q s1 H) → t ws s H Q
structure DGs (c : Cn) (X : Cx) (ts : List Expr) (gs : List FG) (vs : List Nat) : Prop where
  ex : ∃ t, PGs X ts t ∧ SoGs c X.K t gs vs
theorem dgs_nil {vs : List Nat} : DGs c X [] [] vs := ⟨gNil, pgs_nil, fun ds ws r r1 s Hf H L sr a e Q q => by
  cases ds with
  | nil =>
    have e' : r = r1 := Option.some.inj e
    subst e'
    exact ⟨a, q s L sr rfl⟩
  | cons d ds => cases e⟩
theorem dgs_cons {gs : List FG} {fg : FG} {vs : List Nat} (h1 : DG c X e fg vs) (h2 : DGs c X es gs vs) (ha : (assignEach (e :: es) X.env).map (·.2) = assign e X.env :: (assignEach es X.env).map (·.2) := by rfl) : DGs c X (e :: es) (fg :: gs) vs := by
  obtain ⟨t, p, s⟩ := h1.ex
  obtain ⟨u, p2, s2⟩ := h2.ex
  refine ⟨gCons t u, pgs_cons p p2 ha, fun ds ws r r1 s' Hf H L sr a e' Q q => ?_⟩
  cases ds with
  | nil => cases e'
  | cons d ds =>
    obtain ⟨v, w, e1, h1, h2⟩ := a
    cases e2 : fg (.nw (.fz d)) r with
    | none => simp [gL, e2] at e'
    | some r2 =>
      simp only [gL, e2, Option.bind_some] at e'
      refine ⟨v, w, e1, s (.nw (.fz d)) v r r2 s' Hf H L sr h1 e2 _ fun s1 L1 sr1 w1 => ?_⟩
      exact s2 ds w r2 r1 s1 Hf H L1 sr1 h2 e' Q fun s3 L3 sr3 w3 => q s3 L3 sr3 (w3.trans w1)
def gT (gs : List FG) : FG := fun x r => match x.a with
  | .fz (.tup ds) => gL gs ds r
  | _ => none
theorem gL_length : ∀ {gs : List FG} {ds : List D} {r r1 : Env}, gL gs ds r = some r1 → ds.length = gs.length
  | [], [], _, _, _ => rfl
  | [], _ :: _, _, _, e => by cases e
  | _ :: _, [], _, _, e => by cases e
  | g :: gs, d :: ds, r, r1, e => by
    cases e2 : g (.nw (.fz d)) r with
    | none => simp [gL, e2] at e
    | some r2 =>
      simp only [gL, e2, Option.bind_some] at e
      simp [gL_length e]
theorem dg_tup {gs : List FG} {vs : List Nat} {kk n : Nat} (hc : X.calm = true) (h : DGs c X es gs vs) (hg : gs.length = n := by rfl)
    (hn : (assignEach es X.env).length = n := by rfl) (hst : (assignEach es X.env).findIdx? (·.1) = none := by rfl) : DG c X (.Tuple es kk pos) (gT gs) vs := by
  obtain ⟨t, p, s⟩ := h.ex
  refine ⟨_, pg_tup hc p hn hst, fun x v r r1 s' Hf H L sr a1 e Q q => ?_⟩
  have a2 := a1.a sr.ext.same
  cases ex : x.a with
  | ls _ => simp [gT, ex] at e
  | tp _ => simp [gT, ex] at e
  | fz d =>
    cases d with
    | tup ds =>
      simp only [gT, ex] at e
      rw [ex] at a2
      obtain ⟨p', ws, e1, h1, h2⟩ := a2
      exact ⟨p', ws, e1, SqT.of (sr.sub _ _ h1), by rw [Reps.length h2, gL_length e, hg], s ds ws r r1 s' Hf H L sr h2 e Q q⟩
    | _ => simp [gT, ex] at e
/-- a, b = e -/
def R.z : R → R
  | .nw o => .nw (.fz (er o))
  | .vw o => .vw o
  | .bw o => .bw o
def sAsgT (fg : FG) (f : FE) : FS := sUse f fun x r => match fg x.z r with
  | some r1 => .nx r1
  | none => .bad
theorem ds_asgT {tg : Expr} {fg : FG} {vs : List Nat} (hg : DG c X tg fg vs) (h : DE c X e f) (hs : swapsWithSole [tg] e pos.line X.env = pure false := by rfl) (hw : swappedStores [tg] e X.env = pure none := by rfl)
    (h1 : (assignEach [tg] X.env).map (·.2) = [assign tg X.env] := by rfl) : DS c X (.Assign [tg] e pos) (sAsgT fg f) := by
  obtain ⟨t, p, s⟩ := h.ex
  obtain ⟨u, p2, s2⟩ := hg.ex
  refine ⟨tAsg t u, ps_asg p p2 hs hw h1, fun r s' Hf H L sr D q => ?_⟩
  refine s.use sr q fun x v Hf1 H1 L1 x1 sr1 a1 n1 q1 => ?_
  have x2 := x1.add n1
  have sr2 := sr.mono x2
  have a2 := a1.argR n1
  have a3 : ArgR X.K c.H0 (addF Hf1 H1 L1) H1 x.z v := by
    cases x with
    | nw o => exact a2
    | vw o => exact a2
    | bw o => exact a2
  cases eg : fg x.z r with
  | none => rw [eg] at q1; exact q1.elim
  | some r1 =>
    rw [eg] at q1
    exact s2 _ v r r1 s' _ H1 L sr2 a3 eg _ fun s3 L3 sr3 _ => q1 _ _ _ _ (addF_nw n1) sr3
/-! what is walked -/
/-- the items come one after another, whatever has been made meanwhile -/
def Wk (K : PySem.W.Frag) (H0 Hf : Hp) (its : List R) (J : It) : Prop := ∀ Hf2 H2, Same Hf Hf2 → Same Hf2 H2 → Same H0 H2 →
  (∀ i it, its[i]? = some it → J.go i H2 ∧ ∀ x H3, J.yld i H2 x H3 → ∃ Hf3, Ext Hf2 H2 Hf3 H3 ∧ ArgR K H0 Hf3 H3 it x) ∧ J.stop its.length H2
def PostI (c : Cn) (K : PySem.W.Frag) (s : St) (Hf H : Hp) (Q : It → Hp → Prop) : Res (List R) → Prop
  | .ok its => ∀ J Hf' H', Ext Hf H Hf' H' → Wk K c.H0 Hf' its J → Q J H'
  | .exc e => PostX c K s Hf H e
  | .bad => False
def SoI (c : Cn) (K : PySem.W.Frag) (t : TI) (fi : Env → Res (List R)) : Prop := ∀ r s Hf H L, c.SR K r s Hf H L → ∀ Q, PostI c K s Hf H Q (fi r) → t s H Q
structure DI (c : Cn) (X : Cx) (tg e : Expr) (fi : Env → Res (List R)) : Prop where
  ex : ∃ t, PI X tg e t ∧ SoI c X.K t fi
theorem pstI {s : St} {Q : It → Hp → Prop} : Pst c K s (fun Hf H z => PostI c K s Hf H Q z) where
  bad := fun _ _ h => h
  exc := fun _ _ _ h => h
  mono := fun Hf H Hf' H' z x h => by
    cases z with
    | ok r => exact fun v Hf2 H2 y q => h v Hf2 H2 (x.trans y) q
    | exc e => exact PostX.mono x h
    | bad => exact h
/-- a list that is walked: new or frozen, or lent -/
def itsL : R → Res (List R)
  | .nw o => (match items (.fz (er o)) with | some os => .ok (os.map .nw) | none => .bad)
  | .bw o => (match items o with | some os => .ok (os.map (see false)) | none => .bad)
  | .vw _ => .bad
theorem see_arg {H0 Hf H : Hp} {o : O} {v : V} (h : RepV K Hf H0 o v) : ArgR K H0 Hf H (see false o) v := by
  cases o with
  | fz d => exact h
  | ls os => exact h
  | tp os => exact h
theorem items_fz {d : D} {os : List O} (e : items (.fz d) = some os) : ∀ o ∈ os, ∃ d', o = .fz d' := by
  cases d with
  | lst ds =>
    have e' : ds.map O.fz = os := Option.some.inj e
    subst e'
    intro o ho
    obtain ⟨d, _, rfl⟩ := List.mem_map.mp ho
    exact ⟨d, rfl⟩
  | scr ns =>
    have e' : (ns.map fun n => O.fz (.int n)) = os := Option.some.inj e
    subst e'
    intro o ho
    obtain ⟨d, _, rfl⟩ := List.mem_map.mp ho
    exact ⟨_, rfl⟩
  | _ => cases e
/-- the list at a stays as it is, with what it holds -/
theorem itsL_ok {x : R} {v : V} {its : List R} (s : Same Hf H) (s0 : Same H0 H) (h : ArgR K H0 Hf H x v) (e : itsL x = .ok its) : ∃ (a : Addr) (vs : List V), v = .ref a ∧ vs.length = its.length ∧ SqL K H a vs ∧
    ∀ Hf2 H2, Same Hf Hf2 → Same Hf2 H2 → Same H0 H2 → SqL K H2 a vs ∧ ∀ (i : Nat) (it : R), its[i]? = some it → ∃ w : V, vs[i]? = some w ∧ ArgR K H0 Hf2 H2 it w := by
  cases x with
  | vw o => cases e
  | nw o =>
    simp only [itsL] at e
    cases ei : items (.fz (er o)) with
    | none => rw [ei] at e; cases e
    | some os =>
      rw [ei] at e
      cases e
      have hfz := items_fz ei
      have h' : RepV K Hf Hf (.fz (er o)) v := h
      obtain ⟨a, vs, e1, h1, h2⟩ := items_rep (Same.refl Hf) h' ei
      refine ⟨a, vs, e1, by rw [RepVs.length h2]; simp, s.seq h1, fun Hf2 H2 f1 f2 f3 => ⟨(f1.trans f2).seq h1, fun i it hi => ?_⟩⟩
      rw [List.getElem?_map] at hi
      cases eo : os[i]? with
      | none => rw [eo] at hi; cases hi
      | some o' =>
        rw [eo] at hi
        cases hi
        obtain ⟨w, hw, rw'⟩ := RepVs.get h2 eo
        obtain ⟨d', rfl⟩ := hfz o' (List.mem_of_getElem? eo)
        exact ⟨w, hw, Rep.mono f1 _ _ rw'⟩
  | bw o =>
    simp only [itsL] at e
    cases ei : items o with
    | none => rw [ei] at e; cases e
    | some os =>
      rw [ei] at e
      cases e
      cases o with
      | tp _ => cases ei
      | ls os' =>
        have e' : os' = os := Option.some.inj ei
        subst e'
        obtain ⟨a, vs, e1, h1, h2⟩ := h
        refine ⟨a, vs, e1, by rw [RepVs.length h2]; simp, SqL.of (s0 _ _ h1), fun Hf2 H2 f1 f2 f3 => ⟨SqL.of (f3 _ _ h1), fun i it hi => ?_⟩⟩
        rw [List.getElem?_map] at hi
        cases eo : os'[i]? with
        | none => rw [eo] at hi; cases hi
        | some o' =>
          rw [eo] at hi
          cases hi
          obtain ⟨w, hw, rw'⟩ := RepVs.get h2 eo
          exact ⟨w, hw, see_arg (RepV.mono f1 (Same.refl _) _ _ rw')⟩
      | fz d =>
        have hfz := items_fz ei
        have h' : RepV K Hf Hf (.fz d) v := h
        obtain ⟨a, vs, e1, h1, h2⟩ := items_rep (Same.refl Hf) h' ei
        refine ⟨a, vs, e1, by rw [RepVs.length h2]; simp, s.seq h1, fun Hf2 H2 f1 f2 f3 => ⟨(f1.trans f2).seq h1, fun i it hi => ?_⟩⟩
        rw [List.getElem?_map] at hi
        cases eo : os[i]? with
        | none => rw [eo] at hi; cases hi
        | some o' =>
          rw [eo] at hi
          cases hi
          obtain ⟨w, hw, rw'⟩ := RepVs.get h2 eo
          obtain ⟨d', rfl⟩ := hfz o' (List.mem_of_getElem? eo)
          exact ⟨w, hw, Rep.mono f1 _ _ rw'⟩
def iLst (f : FE) : Env → Res (List R) := fun r => (f r).bind itsL
theorem di_list {tg : Expr} (h : DE c X e f) : DI c X tg e (iLst f) := by
  obtain ⟨t, p, s⟩ := h.ex
  refine ⟨iList X.K t, pi_list p, fun r s' Hf H L sr Q q => ?_⟩
  refine s.run sr pstI q fun x v Hf1 H1 x1 sr1 a1 q1 => ?_
  cases e1 : itsL x with
  | bad => rw [e1] at q1; exact q1.elim
  | exc e' => exfalso; cases x <;> simp only [itsL] at e1 <;> (try split at e1) <;> cases e1
  | ok its =>
    rw [e1] at q1
    obtain ⟨a, vs, e2, hl, h1, h2⟩ := itsL_ok sr1.sub sr1.same0 a1 e1
    refine ⟨a, e2, ⟨vs, h1⟩, q1 (Itl X.K a) Hf1 H1 (Ext.refl sr1.sub) fun Hf2 H2 f1 f2 f3 => ?_⟩
    obtain ⟨g1, g2⟩ := h2 Hf2 H2 f1 f2 f3
    refine ⟨fun i it hi => ?_, ⟨vs, g1, by omega⟩⟩
    obtain ⟨w, hw, aw⟩ := g2 i it hi
    refine ⟨⟨vs, w, g1, hw⟩, fun x H3 ⟨eH, hx⟩ => ?_⟩
    subst eH
    have ew := hx vs g1
    rw [hw] at ew
    cases ew
    exact ⟨Hf2, Ext.refl f2, aw⟩
/-- range -/
def intR (n : Int) : R := .nw (.fz (.int n))
def rngL (lo : Int) (n : Nat) : List R := (List.range n).map fun (k : Nat) => intR (lo + (k : Nat))
def small62 (i : Int) : Bool := decide (-(2 ^ 62) ≤ i ∧ i < 2 ^ 62)
def rng1 : List O → Res (List R)
  | [.fz (.int j)] => if small62 j then .ok (rngL 0 j.toNat) else .bad
  | _ => .bad
def rng2 : List O → Res (List R)
  | [.fz (.int i), .fz (.int j)] => if small62 i && small62 j then .ok (rngL i (j - i).toNat) else .bad
  | _ => .bad
def iRng (g : List O → Res (List R)) (fs : Env → Res (List O)) : Env → Res (List R) := fun r => (fs r).bind g
theorem wk_rng {lo : Int} {n : Nat} : Wk K H0 Hf (rngL lo n) (Itr lo n) := fun Hf2 H2 f1 f2 f3 => by
  refine ⟨fun i it hi => ?_, by show n ≤ (rngL lo n).length; simp [rngL]⟩
  have hlt : i < n := by
    have := (List.getElem?_eq_some_iff.mp hi).1
    simpa [rngL] using this
  refine ⟨hlt, fun x H3 ⟨eH, ex⟩ => ?_⟩
  subst eH ex
  have e : (rngL lo n)[i]? = some (intR (lo + (i : Nat))) := by simp [rngL, hlt]
  rw [e] at hi
  cases hi
  exact ⟨Hf2, Ext.refl f2, rfl⟩
theorem ints1 {os : List O} {vs : List V} {β : Type} {k : Int → Res β} {g : List O → Res β} (hg : ∀ os, g os = match os with | [.fz (.int j)] => k j | _ => .bad) (h : RepVs K Hf H os vs) : g os = .bad ∨ ∃ j, g os = k j ∧ vs = [.int j] := by
  rw [hg]
  split
  · rename_i j
    obtain ⟨v, r, e1, h1, h2⟩ := h
    have h2' : r = [] := h2
    have h1' : v = .int j := h1
    subst h2' h1' e1
    exact .inr ⟨j, rfl, rfl⟩
  · exact .inl rfl
theorem ints2 {os : List O} {vs : List V} {β : Type} {k : Int → Int → Res β} {g : List O → Res β} (hg : ∀ os, g os = match os with | [.fz (.int i), .fz (.int j)] => k i j | _ => .bad) (h : RepVs K Hf H os vs) : g os = .bad ∨ ∃ i j, g os = k i j ∧ vs = [.int i, .int j] := by
  rw [hg]
  split
  · rename_i i j
    obtain ⟨v, r, e1, h1, v2, r2, e2, h2, h3⟩ := h
    have h3' : r2 = [] := h3
    have h1' : v = .int i := h1
    have h2' : v2 = .int j := h2
    subst h3' h1' h2' e2 e1
    exact .inr ⟨i, j, rfl, rfl⟩
  · exact .inl rfl
theorem di_rng1 {tg e : Expr} {p pos : Pos} (hg : Gl X "range") (hm : X.mg "range" = none) (h : DA c X [e] fs) (hs : starEach [e] X.env = [(false, eval e X.env)] := by rfl) : DI c X tg (.Call (.Name "range" p) [e] [] pos) (iRng rng1 fs) := by
  obtain ⟨t, pa, s⟩ := h.ex
  refine ⟨iRng1 t, pi_range1 hg hm pa hs, fun r s' Hf H L sr Q q => ?_⟩
  refine s.run sr pstI q fun os vs Hf1 H1 x1 sr1 a1 q1 => ?_
  rcases ints1 (k := fun j => if small62 j then .ok (rngL 0 j.toNat) else .bad) (g := rng1) (fun os => by unfold rng1; rfl) a1 with e0 | ⟨j, e0, ev⟩
  · rw [e0] at q1; exact q1.elim
  · rw [e0] at q1
    by_cases hj : small62 j = true
    · rw [if_pos hj] at q1
      have hj' := of_decide_eq_true hj
      exact ⟨j, ev, hj'.1, hj'.2, q1 _ Hf1 H1 (Ext.refl sr1.sub) wk_rng⟩
    · rw [if_neg hj] at q1; exact q1.elim
theorem di_rng2 {tg e e2 : Expr} {p pos : Pos} (hg : Gl X "range") (hm : X.mg "range" = none) (h : DA c X [e, e2] fs) (hs : starEach [e, e2] X.env = [(false, eval e X.env), (false, eval e2 X.env)] := by rfl) (hs2 : starEach [e2] X.env = [(false, eval e2 X.env)] := by rfl) :
    DI c X tg (.Call (.Name "range" p) [e, e2] [] pos) (iRng rng2 fs) := by
  obtain ⟨t, pa, s⟩ := h.ex
  refine ⟨iRng2 t, pi_range2 hg hm pa hs hs2, fun r s' Hf H L sr Q q => ?_⟩
  refine s.run sr pstI q fun os vs Hf1 H1 x1 sr1 a1 q1 => ?_
  rcases ints2 (k := fun i j => if small62 i && small62 j then .ok (rngL i (j - i).toNat) else .bad) (g := rng2) (fun os => by unfold rng2; rfl) a1 with e0 | ⟨i, j, e0, ev⟩
  · rw [e0] at q1; exact q1.elim
  · rw [e0] at q1
    by_cases hj : (small62 i && small62 j) = true
    · rw [if_pos hj] at q1
      rw [Bool.and_eq_true] at hj
      have hi' := of_decide_eq_true hj.1
      have hj' := of_decide_eq_true hj.2
      exact ⟨i, j, ev, ⟨hi'.1, hi'.2, hj'.1, hj'.2⟩, q1 _ Hf1 H1 (Ext.refl sr1.sub) wk_rng⟩
    · rw [if_neg hj] at q1; exact q1.elim
/-! for -/
def forL (fg : FG) (F : FS) : List R → Env → Out
  | [], r => .nx r
  | x :: xs, r => match fg x r with
    | none => .bad
    | some r1 => (match F r1 with
      | .nx r' => forL fg F xs r'
      | .ct r' => forL fg F xs r'
      | .bk r' => .nx r'
      | o => o)
def sFor (fi : Env → Res (List R)) (fg : FG) (F : FS) : FS := fun r => match fi r with
  | .ok its => forL fg F its r
  | .exc e => .exc e r
  | .bad => .bad
theorem so_for {wi : TI} {g : TG} {tb : TS} {fi : Env → Res (List R)} {fg : FG} {vs : List Nat} (hi : SoI c K wi fi) (hg : SoG c K g fg vs) (hb : SoS c K tb F) : SoS c K (tFor wi g tb) (sFor fi fg F) := fun r s Hf0 H L sr D q => by
  refine hi r s Hf0 H L sr _ ?_
  cases ei : fi r with
  | bad => simp only [sFor, ei] at q; exact q.elim
  | exc e' =>
    simp only [sFor, ei] at q
    exact fun cls d Hf1 H1 x1 h1 => q s cls d Hf1 H1 L x1.fsame (sr.mono x1) h1
  | ok its =>
    simp only [sFor, ei] at q
    intro J Hf1 H1 x1 wk
    refine ⟨fun i m s H => m = its.length - i ∧ i ≤ its.length ∧ ∃ r Hf L, c.SR K r s Hf H L ∧ Same Hf1 Hf ∧ PostS c K Hf D (forL fg F (its.drop i) r), ⟨its.length, by simp, Nat.zero_le _, r, Hf1, L, sr.mono x1, Same.refl _, by simpa using q.mono x1.fsame⟩, ?_⟩
    rintro i m s H ⟨rfl, hle, r, Hf, L, sr, f1, q⟩
    obtain ⟨w1, w2⟩ := wk Hf H f1 sr.sub sr.same0
    by_cases hlt : i < its.length
    · have hit : its[i]? = some its[i] := by simp [hlt]
      obtain ⟨go, yld⟩ := w1 i _ hit
      rw [List.drop_eq_getElem_cons hlt] at q
      refine .inr ⟨go, fun s' H' => ∃ r Hf L, c.SR K r s' Hf H' L ∧ Same Hf1 Hf ∧ PostS c K Hf D (forL fg F (its.drop (i + 1)) r), fun s' H' ⟨r', Hf', L', sr', f', q'⟩ => ⟨its.length - (i + 1), by omega, rfl, hlt, r', Hf', L', sr', f', q'⟩, fun x H3 hy => ?_⟩
      obtain ⟨Hf3, x3, a3⟩ := yld x H3 hy
      have sr3 := sr.mono x3
      unfold forL at q
      cases eg : fg its[i] r with
      | none => rw [eg] at q; exact q.elim
      | some r1 =>
        rw [eg] at q
        refine hg _ x r r1 s Hf3 H3 L sr3 a3 eg _ fun s1 L1 sr1 _ => ?_
        refine hb r1 s1 Hf3 H3 L1 sr1 _ ?_
        have f3 : Same Hf1 Hf3 := f1.trans x3.fsame
        have q3 := q.mono x3.fsame
        dsimp only at q3
        cases eF : F r1 with
        | nx r' => rw [eF] at q3; exact fun s2 Hf2 H2 L2 f2 sr2 => ⟨r', Hf2, L2, sr2, f3.trans f2, q3.mono f2⟩
        | ct r' => rw [eF] at q3; exact fun s2 Hf2 H2 L2 f2 sr2 => ⟨r', Hf2, L2, sr2, f3.trans f2, q3.mono f2⟩
        | bk r' => rw [eF] at q3; exact q3
        | ret o => rw [eF] at q3; exact q3
        | exc e' r' => rw [eF] at q3; exact q3
        | bad => rw [eF] at q3; exact q3
    · have e : i = its.length := by omega
      subst e
      rw [List.drop_length] at q
      exact .inl ⟨w2, q s Hf H L (Same.refl _) sr⟩
theorem ds_for {k : Nat} {tg it : Expr} {fi : Env → Res (List R)} {fg : FG} {vs : List Nat} (B : Bk c X k) (hi : DI c X tg it fi) (hg : DG c X tg fg vs) (hb : DSs c X sts F)
    (hs : ∀ x, foldedSetIterable it X.env x = pure x := by intro _; rfl) : DS c X (.For tg it sts [] pos) (sFor fi fg F) := by
  obtain ⟨wi, p, s⟩ := hi.ex
  obtain ⟨g, p2, s2⟩ := hg.ex
  obtain ⟨tb, p3, s3⟩ := hb.ex
  exact ⟨tFor wi g tb, ps_for B.po B.calm p p2 p3 hs, so_for s s2 s3⟩
end DL

namespace DL
open PySem L2
variable {c : Cn} {X : Cx} {a b e : Expr} {es : List Expr} {f g fa fb : FE} {pos : Pos} {fs : Env → Res (List O)} {K : PySem.W.Frag} {H0 H H' Hf Hf' : Hp} {F G : FS} {st : Stmt} {sts : List Stmt} {ft : Env → Res Bool}
/-! a def -/
def startE (n : Nat) (os : List O) : Env := os.map (S.vl false) ++ List.replicate (n - os.length) S.un
def runF (n : Nat) (F : FS) : List O → Res O := fun os => match F (startE n os) with
  | .ret o => .ok o
  | .nx _ => .ok (.fz .non)
  | .exc e _ => .exc e
  | _ => .bad
theorem env_un {n : Nat} : EnvR K Hf H0 H (List.replicate n S.un) (List.replicate n none) [] := by
  induction n with
  | zero => exact ⟨rfl, rfl⟩
  | succ n ih => exact ⟨none, List.replicate n none, [], [], rfl, rfl, rfl, ih⟩
theorem env_start {m : Nat} : ∀ {os : List O} {vs : List V}, RepVs K Hf H0 os vs → EnvR K Hf H0 H (os.map (S.vl false) ++ List.replicate m S.un) (vs.map some ++ List.replicate m none) []
  | [], _, h => by have h' : _ = _ := h; subst h'; exact env_un
  | o :: os, _, h => by
    obtain ⟨v, r, e1, h1, h2⟩ := h
    subst e1
    exact ⟨some v, _, [], [], rfl, rfl, ⟨h1, rfl⟩, env_start h2⟩
section
variable {P : Program} {w : World} {mg : Str → Option Value} {base : Heap}
theorem Def.of {x qual : Str} {st : Stmt} {fa : Addr} {fd : FuncData} {N ps : List Str} {k n : Nat} {F : FS} (Fn : Fun K x qual st fa fd) (S : FnScope N ps (defScope st)) (hm : mg x = some (.ref fa)) (hb : Binds K fd ps []) (hn : ps.length = n)
    (hbody : ∀ (cdv : Value) (A : Around) (outer : List PySem.Env) (s : Shared) (H : Hp) (E : XK) (Hf : Hp), Bk ⟨Hf, H, fun cls d _ H' => E cls d H'⟩ (cxOf (L2.CX P w) P w K mg base N qual (defScope st) fa cdv A outer s H E) k →
      DSs ⟨Hf, H, fun cls d _ H' => E cls d H'⟩ (cxOf (L2.CX P w) P w K mg base N qual (defScope st) fa cdv A outer s H E) (defBody st) F) : Def P w K mg base x (k + 1) n (runF N.length F) := by
  refine ⟨fa, fd, ps, ?_, hm, Fn.kp, hb, hn⟩
  subst hn
  refine Fn.okX S (fun vs H Q E h => ?_) (fun cdv A outer s H vs Q E hr h => ?_)
  · obtain ⟨Hf, os, _, h2, h3, _⟩ := h
    rw [RepVs.length h2, h3]
  · obtain ⟨Hf, os, sub, h2, h3, h4⟩ := h
    have B : Bk ⟨Hf, H, fun cls d _ H' => E cls d H'⟩ (cxOf (L2.CX P w) P w K mg base N qual (defScope st) fa cdv A outer s H E) k := ⟨hr, takes_of rfl rfl rfl rfl, passes_of rfl, rfl⟩
    obtain ⟨t, p, so⟩ := (hbody cdv A outer s H E Hf B).ex
    refine ⟨t, p, ?_⟩
    have hl : vs.length = os.length := RepVs.length h2
    have sr : SR K Hf H (startE N.length os) (L2.start N vs) Hf H [] := by
      refine ⟨Ext.refl sub, ?_, List.nodup_nil, (fun _ h => nomatch h), (fun _ h => nomatch h)⟩
      unfold startE L2.start
      rw [hl]
      exact env_start h2
    refine so _ _ Hf H [] sr _ ?_
    unfold runF at h4
    cases e : F (startE N.length os) with
    | ret o => rw [e] at h4; exact fun v Hf' H' L x q n => h4 v Hf' H' L x q n
    | nx r => rw [e] at h4; exact fun s Hf' H' L f sr' => h4 .non Hf' H' [] sr'.ext ⟨rfl, rfl⟩ nw_nil
    | bk r => rw [e] at h4; exact h4.elim
    | ct r => rw [e] at h4; exact h4.elim
    | exc e' r => rw [e] at h4; exact fun s cls d Hf' H' L _ sr' h => h4 cls d Hf' H' sr'.ext h
    | bad => rw [e] at h4; exact h4.elim
/-- another function that says less -/
theorem Def.imp {x : Str} {k n : Nat} {F F' : List O → Res O} (D : Def P w K mg base x k n F) (h : ∀ os, os.length = n → F' os = .bad ∨ F' os = F os) : Def P w K mg base x k n F' := by
  obtain ⟨fa, fd, ps, h1, h2, h3, h4, h5⟩ := D.ex
  refine ⟨fa, fd, ps, h1.imp fun vs H Q E q => ?_, h2, h3, h4, h5⟩
  obtain ⟨Hf, os, q1, q2, q3, q4⟩ := q
  refine ⟨Hf, os, q1, q2, q3, ?_⟩
  rcases h os q3 with e | e
  · rw [e] at q4; exact q4.elim
  · rw [← e]; exact q4
theorem Def.mono {x : Str} {k k' n : Nat} {F : List O → Res O} (D : Def P w K mg base x k n F) (h : k ≤ k') : Def P w K mg base x k' n F := by
  obtain ⟨fa, fd, ps, h1, h2⟩ := D.ex
  exact ⟨fa, fd, ps, h1.mono h, h2⟩
end
/-! built-in calls by values -/
def lenO : O → Option Nat
  | .fz (.tup ds) => some ds.length
  | .tp os => some os.length
  | .fz (.str x) => if x.length ≤ 100000 then some x.length else none
  | o => (items o).map List.length
def gLen : List O → Res R
  | [o] => (match lenO o with | some n => fzR (.int n) | none => .bad)
  | _ => .bad
theorem rep1 {o : O} {vs : List V} (h : RepVs K Hf H [o] vs) : ∃ v, vs = [v] ∧ RepV K Hf H o v := by
  obtain ⟨v, r, e, h1, h2⟩ := h
  have h2' : r = [] := h2
  subst h2'
  exact ⟨v, e, h1⟩
theorem rep2 {o p : O} {vs : List V} (h : RepVs K Hf H [o, p] vs) : ∃ v w, vs = [v, w] ∧ RepV K Hf H o v ∧ RepV K Hf H p w := by
  obtain ⟨v, r, e, h1, h2⟩ := h
  obtain ⟨w, e2, h3⟩ := rep1 h2
  subst e2
  exact ⟨v, w, e, h1, h3⟩
theorem lenO_ok {o : O} {v : V} {n : Nat} (s : Same Hf H) (h : RepV K Hf H o v) (e : lenO o = some n) : LenV K v H n := by
  have go : (items o).map List.length = some n → LenV K v H n := fun e => by
    cases ei : items o with
    | none => rw [ei] at e; cases e
    | some os =>
      rw [ei] at e
      have e' : os.length = n := Option.some.inj e
      obtain ⟨a, vs, e1, h1, h2⟩ := items_rep s h ei
      subst e1
      exact .inl ⟨vs, h1, by rw [RepVs.length h2]; exact e'.symm⟩
  cases o with
  | ls os => exact go e
  | tp os =>
    obtain ⟨a, vs, e1, h1, h2⟩ := h
    subst e1
    have e' : os.length = n := Option.some.inj e
    exact .inr ⟨vs, SqT.of h1, by rw [RepVs.length h2]; exact e'.symm⟩
  | fz d =>
    cases d with
    | tup ds =>
      obtain ⟨a, vs, e1, h1, h2⟩ := h
      subst e1
      have e' : ds.length = n := Option.some.inj e
      exact .inr ⟨vs, SqT.of (s _ _ h1), by rw [Reps.length h2]; exact e'.symm⟩
    | str x =>
      have h' : v = .str x := h
      subst h'
      simp only [lenO] at e
      by_cases hx : x.length ≤ 100000
      · rw [if_pos hx] at e
        cases e
        exact ⟨Nat.le_trans hx (by decide), rfl⟩
      · rw [if_neg hx] at e; cases e
    | _ => exact go e
theorem pc_len : PureC K (fun xs H Q => ∃ x n, xs = [x] ∧ LenV K x H n ∧ Q (.int n) H) gLen := fun c s Hf H vs os Q sub h q => by
  cases os with
  | nil => exact q.elim
  | cons o os =>
    cases os with
    | cons _ _ => exact q.elim
    | nil =>
      obtain ⟨v, e, h1⟩ := rep1 h
      subst e
      cases el : lenO o with
      | none => simp only [gLen, el] at q; exact q.elim
      | some n =>
        simp only [gLen, el] at q
        exact ⟨v, n, rfl, lenO_ok sub h1 el, postE_fz sub q rfl⟩
section
variable {p : Pos}
theorem de_len (hg : Gl X "len") (hm : X.mg "len" = none) (h : DA c X [e] fs) (he : starEach [e] X.env = (false, eval e X.env) :: starEach [] X.env := by rfl) (hpl : (backTo pos (starEach [] X.env)).any (·.1) = false := by rfl) : DE c X (.Call (.Name "len" p) [e] [] pos) (eB gLen fs) :=
  de_B call_len pc_len hg hm PySem.boot_len h (by decide) (by decide) he hpl
end
/-- built-ins of ints -/
def g1I (k : Int → D) : List O → Res R
  | [.fz (.int i)] => fzR (k i)
  | _ => .bad
def g2I (k : Int → Int → D) : List O → Res R
  | [.fz (.int i), .fz (.int j)] => fzR (k i j)
  | _ => .bad
theorem pc_1I {k : Int → D} {kv : Int → V} (hk : ∀ i H, Rep K H (k i) (kv i)) : PureC K (fun xs H Q => ∃ i, xs = [.int i] ∧ Q (kv i) H) (g1I k) := fun c s Hf H vs os Q sub h q => by
  rcases ints1 (k := fun i => fzR (k i)) (g := g1I k) (fun os => by unfold g1I; rfl) h with e0 | ⟨j, e0, ev⟩
  · rw [e0] at q; exact q.elim
  · rw [e0] at q; exact ⟨j, ev, postE_fz sub q (hk j Hf)⟩
theorem pc_2I {k : Int → Int → D} {kv : Int → Int → V} (hk : ∀ i j H, Rep K H (k i j) (kv i j)) : PureC K (fun xs H Q => ∃ i j, xs = [.int i, .int j] ∧ Q (kv i j) H) (g2I k) := fun c s Hf H vs os Q sub h q => by
  rcases ints2 (k := fun i j => fzR (k i j)) (g := g2I k) (fun os => by unfold g2I; rfl) h with e0 | ⟨i, j, e0, ev⟩
  · rw [e0] at q; exact q.elim
  · rw [e0] at q; exact ⟨i, j, ev, postE_fz sub q (hk i j Hf)⟩
def gAbs := g1I fun i => .int (if i < 0 then -i else i)
def gMax2 := g2I fun i j => .int (if j > i then j else i)
def gMin2 := g2I fun i j => .int (if j < i then j else i)
theorem pc_abs : PureC K (fun xs H Q => ∃ i, xs = [.int i] ∧ Q (.int (if i < 0 then -i else i)) H) gAbs := pc_1I fun _ _ => rfl
theorem pc_max2 : PureC K (fun xs H Q => ∃ i j, xs = [.int i, .int j] ∧ Q (.int (if j > i then j else i)) H) gMax2 := pc_2I fun _ _ _ => rfl
theorem pc_min2 : PureC K (fun xs H Q => ∃ i j, xs = [.int i, .int j] ∧ Q (.int (if j < i then j else i)) H) gMin2 := pc_2I fun _ _ _ => rfl
/-- list(x) -/
def gList : List O → Res R
  | [o] => (match items o with | some os => if allFz os then .ok (.nw (.ls os)) else .bad | none => .bad)
  | _ => .bad
theorem pc_list : PureC K (fun xs H Q => ∃ p ys, xs = [.ref p] ∧ (SqL K H p ys ∨ SqT K H p ys) ∧ ∀ l, H l = none → Q (.ref l) (upd H l (.lst ys))) gList := fun c s Hf H vs os Q sub h q => by
  cases os with
  | nil => exact q.elim
  | cons o os =>
    cases os with
    | cons _ _ => exact q.elim
    | nil =>
      obtain ⟨v, e, h1⟩ := rep1 h
      subst e
      cases ei : items o with
      | none => simp only [gList, ei] at q; exact q.elim
      | some os =>
        simp only [gList, ei] at q
        by_cases hf : allFz os = true
        · rw [if_pos hf] at q
          obtain ⟨a, vs, e1, h2, h3⟩ := items_rep sub h1 ei
          subst e1
          exact ⟨a, vs, rfl, .inl h2, fun l hl => postE_ls sub q hf h3 hl⟩
        · rw [if_neg hf] at q; exact q.elim
/-- isinstance of a built-in class's name -/
inductive Ty where | non | bl | int | str | lst | tup
  deriving DecidableEq
def Ty.nm : Ty → String
  | .non => "NoneType"
  | .bl => "bool"
  | .int => "int"
  | .str => "str"
  | .lst => "list"
  | .tup => "tuple"
def tyO : O → Option Ty
  | .ls _ => some .lst
  | .tp _ => some .tup
  | .fz .non => some .non
  | .fz (.bl _) => some .bl
  | .fz (.int _) => some .int
  | .fz (.str _) => some .str
  | .fz (.lst _) => some .lst
  | .fz (.tup _) => some .tup
  | .fz (.scr _) => none
  | .fz (.ex _) => none
def isT : Ty → Ty → Bool
  | .bl, .int => true
  | a, b => decide (a = b)
theorem kit_is : ∀ a b : Ty, kitB a.nm b.nm = some (isT a b) := by
  intro a b
  cases a <;> cases b <;> decide +kernel
theorem tyO_ok {o : O} {v : V} {t : Ty} (s : Same Hf H) (h : RepV K Hf H o v) (e : tyO o = some t) : TyX K H v (.type t.nm) := by
  cases o with
  | ls os =>
    cases e
    obtain ⟨a, vs, e1, h1, _⟩ := h
    subst e1
    exact .base (.lst h1)
  | tp os =>
    cases e
    obtain ⟨a, vs, e1, h1, _⟩ := h
    subst e1
    exact .base (.tup h1)
  | fz d =>
    cases d with
    | non => cases e; have h' : v = .non := h; subst h'; exact .base .non
    | bl b => cases e; have h' : v = .bl b := h; subst h'; exact .base (.bl b)
    | int b => cases e; have h' : v = .int b := h; subst h'; exact .base (.int b)
    | str b => cases e; have h' : v = .str b := h; subst h'; exact .base (.str b)
    | ex _ => cases e
    | scr _ => cases e
    | lst ds =>
      cases e
      obtain ⟨a, vs, e1, h1, _⟩ := h
      subst e1
      exact .base (.lst (s _ _ h1))
    | tup ds =>
      cases e
      obtain ⟨a, vs, e1, h1, _⟩ := h
      subst e1
      exact .base (.tup (s _ _ h1))
def eIsi (T : Ty) (f : FE) : FE := fun r => (f r).bind fun x => match tyO x.a with
  | some t => fzR (.bl (isT t T))
  | none => .bad
theorem de_isi {p : Pos} (T : Ty) (hg : Gl X "isinstance") (hm : X.mg "isinstance" = none) (hT : PE X e (tC (.ty T.nm))) (h : DE c X a f)
    (he : starEach [a, e] X.env = (false, eval a X.env) :: starEach [e] X.env := by rfl) (hpl : (backTo pos (starEach [e] X.env)).any (·.1) = false := by rfl) (hs : starEach [e] X.env = (false, eval e X.env) :: starEach [] X.env := by rfl) :
    DE c X (.Call (.Name "isinstance" p) [a, e] [] pos) (eIsi T f) := by
  obtain ⟨t, pa, s⟩ := h.ex
  refine ⟨tCB (rIsi X.K) (tCons t (tCons (tC (.ty T.nm)) tNil)), pe_callB call_isi hg hm (by decide +kernel) (pa_cons pa (pa_cons hT pa_nil hs) he) (by decide) (by decide) he hpl, fun r s' Hf H L sr Q q => ?_⟩
  refine s.run sr pstE q fun x v Hf1 H1 x1 sr1 a1 q1 => ?_
  cases et : tyO x.a with
  | none => simp only [et] at q1; exact q1.elim
  | some t =>
    simp only [et] at q1
    exact ⟨v, .ty T.nm, _, _, _, rfl, .ty T.nm, tyO_ok sr1.sub (a1.a sr1.same0) et, kit_ty (kit_is t T), postE_fz sr1.sub q1 rfl⟩
/-! subscripts -/
def ixO (o : O) (k : Int) : Option O := match o with
  | .fz (.tup ds) => (atI ds k).map .fz
  | .tp os => atI os k
  | .fz (.str x) => if x.length ≤ 100000 then (atI x.cps.toList k).map fun c => .fz (.str ⟨#[c]⟩) else none
  | o => (items o).bind fun os => atI os k
theorem atI_rep {os : List O} {vs : List V} {k : Int} {o : O} (h : RepVs K Hf H os vs) (e : atI os k = some o) : ∃ v, atI vs k = some v ∧ RepV K Hf H o v := by
  unfold atI at e ⊢
  rw [RepVs.length h]
  cases ei : ixN os.length k with
  | none => rw [ei] at e; cases e
  | some j =>
    rw [ei] at e
    obtain ⟨v, h1, h2⟩ := RepVs.get h (show os[j]? = some o from e)
    exact ⟨v, h1, h2⟩
theorem atI_map {α β : Type} {g : α → β} {xs : List α} {k : Int} : atI (xs.map g) k = (atI xs k).map g := by
  unfold atI
  rw [List.length_map]
  cases ixN xs.length k with
  | none => rfl
  | some j => show (xs.map g)[j]? = (xs[j]?).map g; rw [List.getElem?_map]
theorem ixO_ok {o p : O} {v : V} {k : Int} {Q : VK} (s : Same Hf H) (h : RepV K Hf H o v) (e : ixO o k = some p) (q : ∀ w, RepV K Hf H p w → Q w H) : rIx K v (.int k) H Q := by
  have go : ((items o).bind fun os => atI os k) = some p → rIx K v (.int k) H Q := fun e => by
    cases ei : items o with
    | none => rw [ei] at e; cases e
    | some os =>
      rw [ei] at e
      obtain ⟨a, vs, e1, h1, h2⟩ := items_rep s h ei
      obtain ⟨w, hw, rw'⟩ := atI_rep h2 e
      exact .inl ⟨a, vs, k, w, e1, rfl, h1, hw, q w rw'⟩
  cases o with
  | ls os => exact go e
  | tp os =>
    obtain ⟨a, vs, e1, h1, h2⟩ := h
    have e' : atI os k = some p := e
    obtain ⟨w, hw, rw'⟩ := atI_rep h2 e'
    exact .inr (.inl ⟨a, vs, k, w, e1, rfl, SqT.of h1, hw, q w rw'⟩)
  | fz d =>
    cases d with
    | tup ds =>
      obtain ⟨a, vs, e1, h1, h2⟩ := h
      have e' : (atI ds k).map O.fz = some p := e
      rw [← atI_map] at e'
      obtain ⟨w, hw, rw'⟩ := atI_rep (H := H) (reps_fz h2) e'
      exact .inr (.inl ⟨a, vs, k, w, e1, rfl, SqT.of (s _ _ h1), hw, q w rw'⟩)
    | str x =>
      have h' : v = .str x := h
      subst h'
      simp only [ixO] at e
      by_cases hx : x.length ≤ 100000
      · rw [if_pos hx] at e
        cases ea : atI x.cps.toList k with
        | none => rw [ea] at e; cases e
        | some cc =>
          rw [ea] at e
          cases e
          exact .inr (.inr ⟨x, k, cc, rfl, rfl, Nat.le_trans hx (by decide), ea, q _ rfl⟩)
      · rw [if_neg hx] at e; cases e
    | _ => exact go e
/-- x[i]: lent where x is lent -/
def eIx (f g : FE) : FE := fun r => (f r).bind fun x => (g r).bind fun y => match y.a with
  | .fz (.int k) => (match x with
    | .nw o => (match ixO (.fz (er o)) k with | some (.fz d) => fzR d | _ => .bad)
    | .vw o => (match ixO o k with | some p => .ok (see true p) | none => .bad)
    | .bw o => (match ixO o k with | some p => .ok (see false p) | none => .bad))
  | _ => .bad
theorem de_ix (ha : DE c X a f) (hb : DE c X b g) (hs : PlainIx b := by exact fun _ _ => rfl) : DE c X (.Subscript a b pos) (eIx f g) := by
  obtain ⟨ta, pa, sa⟩ := ha.ex
  obtain ⟨tb, pb, sb⟩ := hb.ex
  refine ⟨tOp (rIx X.K) ta tb, pe_ix ix_seq pa pb hs, fun r s Hf H L sr Q q => ?_⟩
  refine sa.run sr pstE q fun x v Hf1 H1 x1 sr1 a1 q1 => ?_
  refine sb.run sr1 pstE q1 fun y w Hf2 H2 x2 sr2 a2 q2 => ?_
  have a1' := a1.mono x2.fsame x2.same
  have b2 := a2.a sr2.same0
  cases ey : y.a with
  | ls _ => simp only [ey] at q2; exact q2.elim
  | tp _ => simp only [ey] at q2; exact q2.elim
  | fz d =>
    cases d with
    | int k =>
      simp only [ey] at q2
      rw [ey] at b2
      have b3 : w = .int k := b2
      subst b3
      cases x with
      | nw o =>
        cases ei : ixO (.fz (er o)) k with
        | none => simp only [ei] at q2; exact q2.elim
        | some p =>
          cases p with
          | ls _ => simp only [ei] at q2; exact q2.elim
          | tp _ => simp only [ei] at q2; exact q2.elim
          | fz d =>
            simp only [ei] at q2
            exact ixO_ok (o := .fz (er o)) sr2.sub a1' ei fun w hw => postE_fz sr2.sub q2 hw
      | vw o =>
        cases ei : ixO o k with
        | none => simp only [ei] at q2; exact q2.elim
        | some p =>
          simp only [ei] at q2
          refine ixO_ok sr2.sub a1' ei fun w hw => q2 w Hf2 H2 [] (Ext.refl sr2.sub) ?_ nw_nil
          cases p with
          | fz d => exact ⟨hw, rfl⟩
          | ls os => exact ⟨hw, rfl⟩
          | tp os => exact ⟨hw, rfl⟩
      | bw o =>
        cases ei : ixO o k with
        | none => simp only [ei] at q2; exact q2.elim
        | some p =>
          simp only [ei] at q2
          cases o with
          | fz d0 =>
            have hd : ∃ d', p = .fz d' := by
              cases d0 with
              | tup ds =>
                cases ea : atI ds k with
                | none => simp [ixO, ea] at ei
                | some d' => simp [ixO, ea] at ei; exact ⟨d', ei.symm⟩
              | str x =>
                simp only [ixO] at ei
                by_cases hx : x.length ≤ 100000
                · rw [if_pos hx] at ei
                  cases ea : atI x.cps.toList k with
                  | none => rw [ea] at ei; cases ei
                  | some cc => rw [ea] at ei; cases ei; exact ⟨_, rfl⟩
                · rw [if_neg hx] at ei; cases ei
              | lst ds =>
                have ei' : atI (ds.map O.fz) k = some p := ei
                rw [atI_map] at ei'
                cases ea : atI ds k with
                | none => rw [ea] at ei'; cases ei'
                | some d' => rw [ea] at ei'; cases ei'; exact ⟨_, rfl⟩
              | scr ns =>
                have ei' : atI (ns.map fun n => O.fz (.int n)) k = some p := ei
                rw [atI_map] at ei'
                cases ea : atI ns k with
                | none => rw [ea] at ei'; cases ei'
                | some d' => rw [ea] at ei'; cases ei'; exact ⟨_, rfl⟩
              | _ => cases ei
            obtain ⟨d', rfl⟩ := hd
            exact ixO_ok (o := .fz d0) sr2.sub a1' ei fun w hw => postE_fz sr2.sub q2 hw
          | ls os =>
            obtain ⟨a, vs, e1, h1, h2⟩ := a1'
            obtain ⟨w, hw, rw'⟩ := atI_rep h2 (show atI os k = some p from ei)
            refine .inl ⟨a, vs, k, w, e1, rfl, SqL.of (sr2.same0 _ _ h1), hw, q2 w Hf2 H2 [] (Ext.refl sr2.sub) ?_ nw_nil⟩
            cases p with
            | fz d => exact ⟨rw', rfl⟩
            | ls os => exact ⟨rw', rfl⟩
            | tp os => exact ⟨rw', rfl⟩
          | tp os =>
            obtain ⟨a, vs, e1, h1, h2⟩ := a1'
            obtain ⟨w, hw, rw'⟩ := atI_rep h2 (show atI os k = some p from ei)
            refine .inr (.inl ⟨a, vs, k, w, e1, rfl, SqT.of (sr2.same0 _ _ h1), hw, q2 w Hf2 H2 [] (Ext.refl sr2.sub) ?_ nw_nil⟩)
            cases p with
            | fz d => exact ⟨rw', rfl⟩
            | ls os => exact ⟨rw', rfl⟩
            | tp os => exact ⟨rw', rfl⟩
    | _ => simp only [ey] at q2; exact q2.elim
end DL

namespace DL
open PySem L2
variable {c : Cn} {X : Cx} {a b e : Expr} {es : List Expr} {f g fa fb : FE} {pos : Pos} {fs : Env → Res (List O)} {K : PySem.W.Frag} {H0 H H' Hf Hf' : Hp} {F G : FS} {st : Stmt} {sts : List Stmt} {ft : Env → Res Bool}
/-! + and * of lists -/
theorem items_lst {o : O} {os : List O} {v : V} (s : Same Hf H) (h : RepV K Hf H o v) (e : items o = some os) (hs : ∀ ns, o ≠ .fz (.scr ns)) : ∃ a vs, v = .ref a ∧ H a = some (.lst vs) ∧ RepVs K Hf H os vs := by
  cases o with
  | ls os' =>
    have e' : os' = os := Option.some.inj e
    subst e'
    exact h
  | tp _ => cases e
  | fz d =>
    cases d with
    | lst ds =>
      have e' : ds.map O.fz = os := Option.some.inj e
      subst e'
      obtain ⟨a, vs, e1, h1, h2⟩ := h
      exact ⟨a, vs, e1, s _ _ h1, reps_fz h2⟩
    | scr ns => exact absurd rfl (hs ns)
    | non => cases e
    | bl b => cases e
    | int i => cases e
    | str x => cases e
    | ex c => cases e
    | tup ds => cases e
def isScr : O → Bool
  | .fz (.scr _) => true
  | _ => false
theorem isScr_no {o : O} (h : isScr o = false) : ∀ ns, o ≠ .fz (.scr ns) := fun ns e => by subst e; cases h
/-- whether a list of what is seen may be laid anew -/
def lsR (os : List O) : Res R := if os.length ≤ 100000 then (if allFz os then .ok (.nw (.ls os)) else .ok (.vw (.ls os))) else .bad
theorem lsR_len {os : List O} {c : Cn} {s : St} {Q : VK} (q : PostE c K s Hf H Q (lsR os)) : os.length ≤ 100000 := by
  unfold lsR at q
  by_cases h : os.length ≤ 100000
  · exact h
  · rw [if_neg h] at q; exact q.elim
/-- laid anew: of frozen things one's own, else only seen -/
theorem lsR_ok {os : List O} {vs : List V} {c : Cn} {s : St} {Q : VK} {p : Addr} (sub : Same Hf H) (q : PostE c K s Hf H Q (lsR os)) (hr : RepVs K Hf H os vs) (hp : H p = none) : Q (.ref p) (upd H p (.lst vs)) := by
  unfold lsR at q
  by_cases h : os.length ≤ 100000
  · rw [if_pos h] at q
    by_cases ha : allFz os = true
    · rw [if_pos ha] at q; exact postE_ls sub q ha hr hp
    · rw [if_neg ha] at q
      have x := Ext.new (o := .lst vs) sub hp
      exact q (.ref p) Hf _ [] x ⟨⟨p, vs, rfl, upd_same, RepVs.mono (Same.refl _) x.same os vs hr⟩, rfl⟩ ⟨List.nodup_nil, fun _ h => nomatch h⟩
  · rw [if_neg h] at q; exact q.elim
def gCat : O → O → Res R := fun a b => if isScr a || isScr b then .bad else match items a, items b with
  | some xs, some ys => lsR (xs ++ ys)
  | _, _ => .bad
theorem pr_cat : PureR K rCat gCat := fun c s Hf H x y a b Q sub ha hb q => by
  unfold gCat at q
  by_cases hs : (isScr a || isScr b) = true
  · rw [if_pos hs] at q; exact q.elim
  · rw [if_neg hs] at q
    simp only [Bool.or_eq_true, not_or, Bool.not_eq_true] at hs
    cases ea : items a with
    | none => simp only [ea] at q; exact q.elim
    | some xs =>
      cases eb : items b with
      | none => simp only [ea, eb] at q; exact q.elim
      | some ys =>
        simp only [ea, eb] at q
        have l2 := lsR_len q
        obtain ⟨p, vs, e1, h1, h2⟩ := items_lst sub ha ea (isScr_no hs.1)
        obtain ⟨p2, ws, e2, h3, h4⟩ := items_lst sub hb eb (isScr_no hs.2)
        rw [List.length_append] at l2
        exact ⟨p, p2, vs, ws, e1, e2, h1, h3, by rw [RepVs.length h2, RepVs.length h4]; exact Nat.le_trans l2 (by decide), fun l hl => lsR_ok sub q (h2.append h4) hl⟩
theorem de_cat (ha : DE c X a fa) (hb : DE c X b fb) : DE c X (.BinOp a .Add b pos) (eOp gCat fa fb) := de_op op_cat pr_cat ha hb
def repL {α : Type} (xs : List α) (k : Nat) : List α := (List.replicate k xs).flatten
theorem repVs_rep {os : List O} {vs : List V} (h : RepVs K Hf H os vs) : ∀ k, RepVs K Hf H (repL os k) (repL vs k)
  | 0 => rfl
  | k + 1 => by
    unfold repL
    rw [List.replicate_succ, List.replicate_succ, List.flatten_cons, List.flatten_cons]
    exact h.append (repVs_rep h k)
def gRep : O → O → Res R
  | a, .fz (.int k) => if isScr a || !small62 k then .bad else (match items a with
    | some xs => if xs.length * k.toNat ≤ 100000 then lsR (repL xs k.toNat) else .bad
    | none => .bad)
  | _, _ => .bad
theorem pr_rep : PureR K rRep gRep := fun c s Hf H x y a b Q sub ha hb q => by
  cases b with
  | ls _ => exact q.elim
  | tp _ => exact q.elim
  | fz d =>
    cases d with
    | int k =>
      have hb' : y = .int k := hb
      subst hb'
      have q' : PostE c K s Hf H Q (if isScr a || !small62 k then .bad else (match items a with
        | some xs => if xs.length * k.toNat ≤ 100000 then lsR (repL xs k.toNat) else .bad
        | none => .bad)) := q
      by_cases hs : (isScr a || !small62 k) = true
      · rw [if_pos hs] at q'; exact q'.elim
      · rw [if_neg hs] at q'
        simp only [Bool.or_eq_true, not_or, Bool.not_eq_true, Bool.not_eq_true', Bool.not_eq_false] at hs
        have hk := of_decide_eq_true hs.2
        cases ea : items a with
        | none => simp only [ea] at q'; exact q'.elim
        | some xs =>
          simp only [ea] at q'
          by_cases hz : xs.length * k.toNat ≤ 100000
          · rw [if_pos hz] at q'
            have l2 := lsR_len q'
            obtain ⟨p, vs, e1, h1, h2⟩ := items_lst sub ha ea (isScr_no hs.1)
            exact ⟨p, k, vs, e1, rfl, h1, by omega, by omega, by rw [RepVs.length h2]; exact Nat.le_trans hz (by decide), fun l hl => lsR_ok sub q' (repVs_rep h2 _) hl⟩
          · rw [if_neg hz] at q'; exact q'.elim
    | _ => exact q.elim
theorem de_rep (ha : DE c X a fa) (hb : DE c X b fb) : DE c X (.BinOp a .Mult b pos) (eOp gRep fa fb) := de_op op_rep pr_rep ha hb
/-! any + (whole numbers, lists, texts), any * (whole numbers, a list by a number) -/
theorem PureR.or {r1 r2 : R2} {g1 g2 : O → O → Res R} (C : O → O → Bool) (h1 : PureR K r1 g1) (h2 : PureR K r2 g2) : PureR K (fun x y H Q => r1 x y H Q ∨ r2 x y H Q) (fun a b => if C a b then g1 a b else g2 a b) := fun c s Hf H x y a b Q sub ha hb q => by
  dsimp only at q
  by_cases h : C a b = true
  · rw [if_pos h] at q; exact .inl (h1 c s Hf H x y a b Q sub ha hb q)
  · rw [if_neg h] at q; exact .inr (h2 c s Hf H x y a b Q sub ha hb q)
def gCatS : O → O → Res R
  | .fz (.str x), .fz (.str y) => if x.length + y.length ≤ 100000 then fzR (.str (x ++ y)) else .bad
  | _, _ => .bad
theorem pr_catS : PureR K (fun x y H Q => ∃ i j, x = .str i ∧ y = .str j ∧ i.length + j.length ≤ sizeLine ∧ Q (.str (i ++ j)) H) gCatS := fun c s Hf H x y a b Q sub ha hb q => by
  cases a with
  | ls _ => exact q.elim
  | tp _ => exact q.elim
  | fz d => cases d with
    | str z => cases b with
      | ls _ => exact q.elim
      | tp _ => exact q.elim
      | fz d => cases d with
        | str z2 =>
          have q' : PostE c K s Hf H Q (if z.length + z2.length ≤ 100000 then fzR (.str (z ++ z2)) else .bad) := q
          by_cases hl : z.length + z2.length ≤ 100000
          · rw [if_pos hl] at q'
            exact ⟨z, z2, ha, hb, Nat.le_trans hl (by decide), postE_fz sub q' rfl⟩
          · rw [if_neg hl] at q'; exact q'.elim
        | _ => exact q.elim
    | _ => exact q.elim
def isI : O → O → Bool
  | .fz (.int _), _ => true
  | _, _ => false
def isS : O → O → Bool
  | .fz (.str _), _ => true
  | _, _ => false
def gAddA : O → O → Res R := fun a b => if isI a b then gAdd a b else if isS a b then gCatS a b else gCat a b
def gMulA : O → O → Res R := fun a b => if isI a b then gMul a b else gRep a b
theorem de_addA (ha : DE c X a fa) (hb : DE c X b fb) : DE c X (.BinOp a .Add b pos) (eOp gAddA fa fb) :=
  de_op (op_add.or (op_add_str.or op_cat)) (PureR.or isI (pure_I0 fun _ _ _ => rfl) (PureR.or isS pr_catS pr_cat)) ha hb
theorem de_mulA (ha : DE c X a fa) (hb : DE c X b fb) : DE c X (.BinOp a .Mult b pos) (eOp gMulA fa fb) :=
  de_op (op_mulW.or op_rep) (PureR.or isI (pure_I (fun i j h => by unfold CMulW; exact of_decide_eq_true h) fun _ _ _ => rfl) pr_rep) ha hb
/-! == and != -/
mutual
def py : D → Option PyData
  | .non => some .none
  | .bl b => some (.bool b)
  | .int i => some (.int i)
  | .str x => some (.str x)
  | .lst ds => (pys ds).map .list
  | .tup ds => (pys ds).map .tuple
  | .scr _ => none
  | .ex _ => none
def pys : List D → Option (List PyData)
  | [] => some []
  | d :: ds => (py d).bind fun p => (pys ds).map (p :: ·)
end
mutual
theorem dp_of : ∀ {d : D} {p : PyData} {v : V}, py d = some p → Rep K H d v → Dp K H v p
  | .non, p, v, e, h => by have h' : v = .non := h; subst h'; cases e; exact .non
  | .bl b, p, v, e, h => by have h' : v = .bl b := h; subst h'; cases e; exact .bl b
  | .int b, p, v, e, h => by have h' : v = .int b := h; subst h'; cases e; exact .int b
  | .str b, p, v, e, h => by have h' : v = .str b := h; subst h'; cases e; exact .str b
  | .lst ds, p, v, e, h => by
    obtain ⟨a, vs, e1, h1, h2⟩ := h
    subst e1
    cases e2 : pys ds with
    | none => simp [py, e2] at e
    | some ps =>
      have e' : PyData.list ps = p := by simpa [py, e2] using e
      subst e'
      exact .lst (SqL.of h1) (dps_of e2 h2)
  | .tup ds, p, v, e, h => by
    obtain ⟨a, vs, e1, h1, h2⟩ := h
    subst e1
    cases e2 : pys ds with
    | none => simp [py, e2] at e
    | some ps =>
      have e' : PyData.tuple ps = p := by simpa [py, e2] using e
      subst e'
      exact .tup (SqT.of h1) (dps_of e2 h2)
  | .scr _, _, _, e, _ => by simp [py] at e
  | .ex _, _, _, e, _ => by simp [py] at e
theorem dps_of : ∀ {ds : List D} {ps : List PyData} {vs : List V}, pys ds = some ps → Reps K H ds vs → DpAll K H vs ps
  | [], ps, vs, e, h => by
    have h' : vs = [] := h
    subst h'
    have e' : [] = ps := by simpa [pys] using e
    subst e'
    exact .nil
  | d :: ds, ps, vs, e, h => by
    obtain ⟨v, r, e1, h1, h2⟩ := h
    subst e1
    cases e2 : py d with
    | none => simp [pys, e2] at e
    | some p =>
      cases e3 : pys ds with
      | none => simp [pys, e2, e3] at e
      | some qs =>
        have e' : p :: qs = ps := by simpa [pys, e2, e3] using e
        subst e'
        exact .cons (dp_of e2 h1) (dps_of e3 h2)
end
/- what is seen, read off the heap as it stands -/
mutual
theorem RepV.rep (s : Same Hf H) : ∀ (o : O) (v : V), RepV K Hf H o v → Rep K H (er o) v
  | .fz d, v, h => Rep.mono s d v h
  | .ls os, v, h => by
    obtain ⟨a, vs, e1, h1, h2⟩ := h
    exact ⟨a, vs, e1, h1, RepVs.rep s os vs h2⟩
  | .tp os, v, h => by
    obtain ⟨a, vs, e1, h1, h2⟩ := h
    exact ⟨a, vs, e1, h1, RepVs.rep s os vs h2⟩
theorem RepVs.rep (s : Same Hf H) : ∀ (os : List O) (vs : List V), RepVs K Hf H os vs → Reps K H (ers os) vs
  | [], _, h => h
  | o :: os, _, h => by
    obtain ⟨v, r, e1, h1, h2⟩ := h
    exact ⟨v, r, e1, RepV.rep s o v h1, RepVs.rep s os r h2⟩
end
def eqD (d e : D) : Option Bool := match py d, py e with
  | some p, some q => if SeqAt.shaped p && SeqAt.shaped q then some (PyData.eqv p q) else none
  | _, _ => none
def gEqD (a b : O) : Res R := match eqD (er a) (er b) with
  | some k => fzR (.bl k)
  | none => .bad
def gNeD (a b : O) : Res R := match eqD (er a) (er b) with
  | some k => fzR (.bl (!k))
  | none => .bad
def gEq : O → O → Res R
  | .fz (.int i), .fz (.int j) => fzR (.bl (decide (i = j)))
  | a, b => gEqD a b
def gNe : O → O → Res R
  | .fz (.int i), .fz (.int j) => fzR (.bl (!decide (i = j)))
  | a, b => gNeD a b
theorem eqD_ok {x y : V} {a b : O} {k : Bool} (sub : Same Hf H) (ha : RepV K Hf H a x) (hb : RepV K Hf H b y) (e : eqD (er a) (er b) = some k) :
    ∃ p q, Dp K H x p ∧ Dp K H y q ∧ SeqAt.shaped p = true ∧ SeqAt.shaped q = true ∧ PyData.eqv p q = k := by
  unfold eqD at e
  split at e
  · rename_i p q e1 e2
    by_cases hs : (SeqAt.shaped p && SeqAt.shaped q) = true
    · rw [if_pos hs] at e
      rw [Bool.and_eq_true] at hs
      exact ⟨p, q, dp_of e1 (RepV.rep sub a x ha), dp_of e2 (RepV.rep sub b y hb), hs.1, hs.2, Option.some.inj e⟩
    · rw [if_neg hs] at e; cases e
  · cases e
theorem pr_eqD : PureR K (rEqD K) gEqD := fun c s Hf H x y a b Q sub ha hb q => by
  unfold gEqD at q
  cases e : eqD (er a) (er b) with
  | none => simp only [e] at q; exact q.elim
  | some k =>
    simp only [e] at q
    obtain ⟨p, p2, h1, h2, h3, h4, h5⟩ := eqD_ok sub ha hb e
    exact ⟨p, p2, h1, h2, h3, h4, by rw [h5]; exact postE_fz sub q rfl⟩
theorem pr_neD : PureR K (rNeD K) gNeD := fun c s Hf H x y a b Q sub ha hb q => by
  unfold gNeD at q
  cases e : eqD (er a) (er b) with
  | none => simp only [e] at q; exact q.elim
  | some k =>
    simp only [e] at q
    obtain ⟨p, p2, h1, h2, h3, h4, h5⟩ := eqD_ok sub ha hb e
    exact ⟨p, p2, h1, h2, h3, h4, by rw [h5]; exact postE_fz sub q rfl⟩
theorem shaped_int (i : Int) : SeqAt.shaped (.int i) = true := rfl
theorem eqv_int (i j : Int) : PyData.eqv (.int i) (.int j) = decide (i = j) := by
  show (i == j) = _
  by_cases h : i = j
  · subst h; simp
  · rw [decide_eq_false h]; exact beq_eq_false_iff_ne.mpr h
theorem int_cases (a b : O) : (∃ i j, a = .fz (.int i) ∧ b = .fz (.int j)) ∨ (gEq a b = gEqD a b ∧ gNe a b = gNeD a b) := by
  cases a with
  | ls _ => exact .inr ⟨rfl, rfl⟩
  | tp _ => exact .inr ⟨rfl, rfl⟩
  | fz d => cases d with
    | int i => cases b with
      | ls _ => exact .inr ⟨rfl, rfl⟩
      | tp _ => exact .inr ⟨rfl, rfl⟩
      | fz d => cases d with
        | int j => exact .inl ⟨i, j, rfl, rfl⟩
        | _ => exact .inr ⟨rfl, rfl⟩
    | _ => exact .inr ⟨rfl, rfl⟩
theorem pr_eq : PureR K (rEqD K) gEq := fun c s Hf H x y a b Q sub ha hb q => by
  rcases int_cases a b with ⟨i, j, rfl, rfl⟩ | ⟨e1, _⟩
  · have h1 : x = .int i := ha
    have h2 : y = .int j := hb
    subst h1 h2
    exact ⟨.int i, .int j, .int i, .int j, shaped_int i, shaped_int j, by rw [eqv_int]; exact postE_fz sub q rfl⟩
  · rw [e1] at q; exact pr_eqD c s Hf H x y a b Q sub ha hb q
theorem pr_ne : PureR K (rNeD K) gNe := fun c s Hf H x y a b Q sub ha hb q => by
  rcases int_cases a b with ⟨i, j, rfl, rfl⟩ | ⟨_, e1⟩
  · have h1 : x = .int i := ha
    have h2 : y = .int j := hb
    subst h1 h2
    exact ⟨.int i, .int j, .int i, .int j, shaped_int i, shaped_int j, by rw [eqv_int]; exact postE_fz sub q rfl⟩
  · rw [e1] at q; exact pr_neD c s Hf H x y a b Q sub ha hb q
section
variable {k : Nat}
theorem dt_eq (B : Bk c X k) (ha : DE c X a fa) (hb : DE c X b fb) : DT c X (.Compare a [.Eq] [b] pos) (tOf (eOp gEq fa fb)) := dt_cmp (op_eqD B.hr.units) pr_eq ha hb (nomark _)
theorem dt_ne (B : Bk c X k) (ha : DE c X a fa) (hb : DE c X b fb) : DT c X (.Compare a [.NotEq] [b] pos) (tOf (eOp gNe fa fb)) := dt_cmp (op_neD B.hr.units) pr_ne ha hb (nomark _)
theorem de_eq (B : Bk c X k) (ha : DE c X a fa) (hb : DE c X b fb) : DE c X (.Compare a [.Eq] [b] pos) (eOp gEq fa fb) := de_cmp (op_eqD B.hr.units) pr_eq ha hb (nomark _)
theorem de_ne (B : Bk c X k) (ha : DE c X a fa) (hb : DE c X b fb) : DE c X (.Compare a [.NotEq] [b] pos) (eOp gNe fa fb) := de_cmp (op_neD B.hr.units) pr_ne ha hb (nomark _)
end
/-- is None, is not None -/
def isNon : O → Bool
  | .fz .non => true
  | _ => false
theorem isNon_ok {o : O} {v : V} (h : RepV K Hf H o v) : decide (v = .non) = isNon o := by
  cases o with
  | ls os => obtain ⟨a, vs, e, _⟩ := h; subst e; rfl
  | tp os => obtain ⟨a, vs, e, _⟩ := h; subst e; rfl
  | fz d =>
    cases d with
    | non => have h' : v = .non := h; subst h'; rfl
    | bl b => have h' : v = .bl b := h; subst h'; rfl
    | int b => have h' : v = .int b := h; subst h'; rfl
    | str b => have h' : v = .str b := h; subst h'; rfl
    | ex _ => obtain ⟨a, e, _⟩ := h; subst e; rfl
    | scr _ => obtain ⟨a, e, _⟩ := h; subst e; rfl
    | lst _ => obtain ⟨a, vs, e, _⟩ := h; subst e; rfl
    | tup _ => obtain ⟨a, vs, e, _⟩ := h; subst e; rfl
def gIsN : O → O → Res R
  | a, .fz .non => fzR (.bl (isNon a))
  | _, _ => .bad
def gNotN : O → O → Res R
  | a, .fz .non => fzR (.bl (!isNon a))
  | _, _ => .bad
theorem pr_isN : PureR K (fun x y H Q => y = .non ∧ Q (.bl (decide (x = .non))) H) gIsN := fun c s Hf H x y a b Q sub ha hb q => by
  cases b with
  | ls _ => exact q.elim
  | tp _ => exact q.elim
  | fz d =>
    cases d with
    | non => exact ⟨hb, by rw [isNon_ok ha]; exact postE_fz sub q rfl⟩
    | _ => exact q.elim
theorem pr_notN : PureR K (fun x y H Q => y = .non ∧ Q (.bl (!decide (x = .non))) H) gNotN := fun c s Hf H x y a b Q sub ha hb q => by
  cases b with
  | ls _ => exact q.elim
  | tp _ => exact q.elim
  | fz d =>
    cases d with
    | non => exact ⟨hb, by rw [isNon_ok ha]; exact postE_fz sub q rfl⟩
    | _ => exact q.elim
theorem dt_isN (ha : DE c X a fa) (hb : DE c X b fb) : DT c X (.Compare a [.Is] [b] pos) (tOf (eOp gIsN fa fb)) := dt_cmp op_isN pr_isN ha hb (nomark _)
theorem dt_notN (ha : DE c X a fa) (hb : DE c X b fb) : DT c X (.Compare a [.IsNot] [b] pos) (tOf (eOp gNotN fa fb)) := dt_cmp op_notN pr_notN ha hb (nomark _)
theorem de_isN (ha : DE c X a fa) (hb : DE c X b fb) : DE c X (.Compare a [.Is] [b] pos) (eOp gIsN fa fb) := de_cmp op_isN pr_isN ha hb (nomark _)
theorem de_notN (ha : DE c X a fa) (hb : DE c X b fb) : DE c X (.Compare a [.IsNot] [b] pos) (eOp gNotN fa fb) := de_cmp op_notN pr_notN ha hb (nomark _)
/-! slices of lists, without a step -/
def cutL {α : Type} (xs : List α) (lo hi : Option Int) : List α := (xs.drop (HT.sIx xs.length 0 lo)).take (HT.sIx xs.length xs.length hi - HT.sIx xs.length 0 lo)
theorem RepVs.drop : ∀ {os : List O} {vs : List V} (n : Nat), RepVs K Hf H os vs → RepVs K Hf H (os.drop n) (vs.drop n)
  | [], _, n, h => by have h' : _ = _ := h; subst h'; cases n <;> rfl
  | o :: os, _, 0, h => h
  | o :: os, _, n + 1, h => by
    obtain ⟨v, r, e, h1, h2⟩ := h
    subst e
    exact RepVs.drop n h2
theorem RepVs.take : ∀ {os : List O} {vs : List V} (n : Nat), RepVs K Hf H os vs → RepVs K Hf H (os.take n) (vs.take n)
  | [], _, n, h => by have h' : _ = _ := h; subst h'; cases n <;> rfl
  | o :: os, _, 0, h => rfl
  | o :: os, _, n + 1, h => by
    obtain ⟨v, r, e, h1, h2⟩ := h
    subst e
    exact ⟨v, _, rfl, h1, RepVs.take n h2⟩
theorem RepVs.cut {os : List O} {vs : List V} (lo hi : Option Int) (h : RepVs K Hf H os vs) : RepVs K Hf H (cutL os lo hi) (cutV vs lo hi) := by
  unfold cutL cutV
  rw [RepVs.length h]
  exact (h.drop _).take _
/-- a part of a slice -/
def FP := Env → Res (Option Int)
def pNone : FP := fun _ => .ok none
def pSome (f : FE) : FP := fun r => (f r).bind fun x => match x.a with
  | .fz (.int k) => .ok (some k)
  | _ => .bad
def PostP (c : Cn) (K : PySem.W.Frag) (s : St) (Hf H : Hp) (Q : Option Int → Hp → Prop) : Res (Option Int) → Prop
  | .ok b => ∀ Hf' H', Ext Hf H Hf' H' → Q b H'
  | .exc e => PostX c K s Hf H e
  | .bad => False
theorem pstP {s : St} {Q : Option Int → Hp → Prop} : Pst c K s (fun Hf H z => PostP c K s Hf H Q z) where
  bad := fun _ _ h => h
  exc := fun _ _ _ h => h
  mono := fun Hf H Hf' H' z x h => by
    cases z with
    | ok r => exact fun Hf2 H2 y => h Hf2 H2 (x.trans y)
    | exc e => exact PostX.mono x h
    | bad => exact h
def SoP (c : Cn) (K : PySem.W.Frag) (t : TO) (f : FP) : Prop := ∀ r s Hf H L, c.SR K r s Hf H L → ∀ Q, PostP c K s Hf H Q (f r) → t s H Q
structure DP (c : Cn) (X : Cx) (e : Option Expr) (f : FP) : Prop where
  ex : ∃ t, PO X e t ∧ SoP c X.K t f
theorem dp_none : DP c X none pNone := ⟨tNoPart, po_none, fun r s Hf H L sr Q q => q Hf H (Ext.refl sr.sub)⟩
theorem dp_some (h : DE c X e f) : DP c X (some e) (pSome f) := by
  obtain ⟨t, p, s⟩ := h.ex
  refine ⟨tPart t, po_some p, fun r s' Hf H L sr Q q => ?_⟩
  refine s.run sr pstP q fun x v Hf1 H1 x1 sr1 a1 q1 => ?_
  have a2 := a1.a sr1.same0
  cases ex : x.a with
  | ls _ => simp only [ex] at q1; exact q1.elim
  | tp _ => simp only [ex] at q1; exact q1.elim
  | fz d =>
    cases d with
    | int k =>
      simp only [ex] at q1
      rw [ex] at a2
      exact ⟨k, a2, q1 Hf1 H1 (Ext.refl sr1.sub)⟩
    | _ => simp only [ex] at q1; exact q1.elim
theorem SoP.run {t : TO} {fp : FP} {r : Env} {s : St} {L : List Addr} (h : SoP c K t fp) (sr : c.SR K r s Hf H L) {β : Type} {post : Hp → Hp → Res β → Prop} (P : Pst c K s post) {k : Option Int → Res β} (hp : post Hf H ((fp r).bind k)) {Q : Option Int → Hp → Prop}
    (hq : ∀ b Hf1 H1, Ext Hf H Hf1 H1 → c.SR K r s Hf1 H1 L → post Hf1 H1 (k b) → Q b H1) : t s H Q := by
  refine h r s Hf H L sr Q ?_
  cases e : fp r with
  | bad => rw [e] at hp; exact absurd hp (P.bad _ _)
  | exc e' => rw [e] at hp; exact P.exc _ _ _ hp
  | ok x =>
    rw [e] at hp
    intro Hf1 H1 x1
    exact hq x Hf1 H1 x1 (sr.mono x1) (P.mono _ _ _ _ _ x1 hp)
def eSl (f : FE) (l h : FP) : FE := fun r => (f r).bind fun x => (l r).bind fun lo => (h r).bind fun hi => match items x.a with
  | some os => lsR (cutL os lo hi)
  | none => .bad
theorem de_sl {lo hi : Option Expr} {fl fh : FP} {p2 : Pos} (h : DE c X a f) (hl : DP c X lo fl) (hh : DP c X hi fh) : DE c X (.Subscript a (.Slice lo hi none p2) pos) (eSl f fl fh) := by
  obtain ⟨t, p, s⟩ := h.ex
  obtain ⟨tl, pl, sl⟩ := hl.ex
  obtain ⟨th, ph, sh⟩ := hh.ex
  refine ⟨_, pe_slice sl_list p pl ph, fun r s' Hf H L sr Q q => ?_⟩
  refine s.run sr pstE q fun x v Hf1 H1 x1 sr1 a1 q1 => ?_
  refine sl.run sr1 pstE q1 fun l Hf2 H2 x2 sr2 q2 => ?_
  refine sh.run sr2 pstE q2 fun u Hf3 H3 x3 sr3 q3 => ?_
  have a3 := (a1.mono (x2.trans x3).fsame (x2.trans x3).same).a sr3.same0
  cases ei : items x.a with
  | none => simp only [ei] at q3; exact q3.elim
  | some os =>
    simp only [ei] at q3
    obtain ⟨p', vs, e1, h1, h2⟩ := items_rep sr3.sub a3 ei
    exact ⟨p', vs, e1, h1, fun l hl => lsR_ok sr3.sub q3 (h2.cut _ _) hl⟩
/-! comprehensions -/
/-- an item of a new list: new things stay new -/
def newO : R → Option O
  | .nw o => some o
  | _ => none
def lcL (fg : FG) (ft : Env → Res Bool) (f : FE) (r : Env) : List R → List O → Res R
  | [], acc => .ok (.nw (.ls acc))
  | x :: xs, acc => match fg x r with
    | none => .bad
    | some r1 => (match ft r1 with
      | .ok true => (match f r1 with
        | .ok y => (match newO y with
          | some o => if acc.length ≤ 100000 then lcL fg ft f r xs (acc ++ [o]) else .bad
          | none => .bad)
        | _ => .bad)
      | .ok false => lcL fg ft f r xs acc
      | _ => .bad)
def wipeE (r : Env) : List Nat → Env
  | [] => r
  | v :: vs => (wipeE r vs).set v S.un
def eLc (fi : Env → Res (List R)) (fg : FG) (vs : List Nat) (ft : Env → Res Bool) (f : FE) : FE := fun r => (fi r).bind fun its => lcL fg ft f (wipeE r vs) its []
def tYesD : Env → Res Bool := fun _ => .ok true
theorem SR.wipe {r : Env} {s : St} {L : List Addr} (sr : c.SR K r s Hf H L) : ∀ vs : List Nat, (∀ v ∈ vs, v < r.length) → ∃ L', c.SR K (wipeE r vs) (wipe s vs) Hf H L' ∧ (wipeE r vs).length = r.length ∧ ∀ a ∈ L', a ∈ L
  | [], _ => ⟨L, sr, rfl, fun _ h => h⟩
  | v :: vs, hv => by
    obtain ⟨L', sr', hl, hs⟩ := SR.wipe sr vs fun w hw => hv w (List.mem_cons_of_mem _ hw)
    have hi : v < (wipeE r vs).length := by rw [hl]; exact hv v List.mem_cons_self
    obtain ⟨z, hz⟩ : ∃ z, (wipeE r vs)[v]? = some z := ⟨(wipeE r vs)[v], by simp [hi]⟩
    obtain ⟨w, A, M, B, h1, h2, h3, h4⟩ := sr'.env.at hz
    have sub2 : ∀ a ∈ A ++ [] ++ B, a ∈ L' := fun a ha => by
      rw [h2]; simp only [List.mem_append, List.not_mem_nil, or_false] at ha ⊢
      rcases ha with ha | ha
      · exact .inl (.inl ha)
      · exact .inr ha
    refine ⟨A ++ [] ++ B, ⟨sr'.ext, h4 Hf H .un none [] (Same.refl _) (fun _ _ _ e => e) rfl, ?_, fun a ha => sr'.fr a (sub2 a ha), fun a ha => sr'.ok a (sub2 a ha)⟩, by unfold wipeE; rw [List.length_set]; exact hl, fun a ha => hs a (sub2 a ha)⟩
    have nd := sr'.nd
    rw [h2] at nd
    simp only [List.nodup_append, List.mem_append] at nd
    simp only [List.append_nil, List.nodup_append]
    obtain ⟨⟨n1, n2, d1⟩, n3, d2⟩ := nd
    exact ⟨n1, n3, fun a ha b hb => d2 a (.inl ha) b hb⟩
theorem wipe_out {i : Nat} {v : Option V} : ∀ {vs : List Nat} {s : St}, i ∉ vs → wipe (s.set i v) vs = (wipe s vs).set i v
  | [], _, _ => rfl
  | k :: vs, s, hk => by
    simp only [List.mem_cons, not_or] at hk
    show (wipe (s.set i v) vs).set k none = ((wipe s vs).set k none).set i v
    rw [wipe_out hk.2, List.set_comm _ _ hk.1]
theorem wipe_wipe {s : St} : ∀ {vs : List Nat}, wipe (wipe s vs) vs = wipe s vs
  | [] => rfl
  | v :: vs => by
    show (wipe ((wipe s vs).set v none) vs).set v none = (wipe s vs).set v none
    by_cases h : v ∈ vs
    · rw [wipe_set h, wipe_wipe]
    · rw [wipe_out h, wipe_wipe, List.set_set]
theorem RepOs.append : ∀ {os : List O} {vs : List V} {M : List Addr} {o : O} {v : V} {L : List Addr}, RepOs K Hf H os vs M → RepO K Hf H o v L → RepOs K Hf H (os ++ [o]) (vs ++ [v]) (M ++ L)
  | [], _, _, o, v, L, h, h2 => by
    obtain ⟨h3, h4⟩ := h
    subst h3 h4
    exact ⟨v, [], L, [], rfl, by simp, h2, rfl, rfl⟩
  | x :: os, _, _, o, v, L, h, h2 => by
    obtain ⟨w, r, L1, L2, e1, e2, h3, h4⟩ := h
    subst e1 e2
    exact ⟨w, _, L1, L2 ++ L, rfl, by simp [List.append_assoc], h3, RepOs.append h4 h2⟩
/-- the wish within a comprehension's block: nothing leaves -/
def Cn.blk (c : Cn) : Cn := ⟨c.Hf0, c.H0, fun _ _ _ _ => False⟩
theorem so_lc {wi : TI} {g : TG} {tt : TT} {te : TE} {fi : Env → Res (List R)} {fg : FG} {vs : List Nat} (hi : SoI c K wi fi) (hg : SoG c.blk K g fg vs) (ht : SoT c.blk K tt ft) (he : SoE c.blk K te f) :
    SoE c K (tLc wi g tt te vs) (fun r => (fi r).bind fun its => if vs.all (· < r.length) then lcL fg ft f (wipeE r vs) its [] else .bad) := fun r s Hf0 H L sr Q q => by
  refine hi r s Hf0 H L sr _ ?_
  cases ei : fi r with
  | bad => simp only [ei, Res.bind] at q; exact q.elim
  | exc e' => simp only [ei, Res.bind] at q; exact q
  | ok its =>
    simp only [ei, Res.bind] at q
    by_cases hvs : vs.all (· < r.length) = true
    · rw [if_pos hvs] at q
      have hv' : ∀ v ∈ vs, v < r.length := fun v hv => of_decide_eq_true (List.all_eq_true.mp hvs v hv)
      intro J Hf1 H1 x1 wk D hD
      have sr1 := sr.mono x1
      have q := (pstE (c := c) (K := K) (s := s) (Q := Q)).mono _ _ _ _ _ x1 q
      refine ⟨fun i m H => m = its.length - i ∧ i ≤ its.length ∧ ∃ Hf acc us M, Ext Hf1 H1 Hf H ∧ H D = some (.lst us) ∧ RepOs K Hf H acc us M ∧ Nw H1 Hf H (D :: M) ∧ PostE c K s Hf1 H1 Q (lcL fg ft f (wipeE r vs) (its.drop i) acc),
        ⟨its.length, by simp, Nat.zero_le _, Hf1, [], [], [], Ext.new sr1.sub hD, upd_same, ⟨rfl, rfl⟩, ⟨by simp, fun a ha => ?_⟩, by simpa using q⟩, ?_⟩
      · have e : a = D := by simpa using ha
        subst e
        exact ⟨hD, sub_none sr1.sub hD, by rw [upd_same]; simp⟩
      rintro i m H ⟨rfl, hle, Hf, acc, us, M, x2, hDl, ha, nw, q⟩
      have sr2 := sr1.mono x2
      obtain ⟨w1, w2⟩ := wk Hf H x2.fsame x2.sub sr2.same0
      by_cases hlt : i < its.length
      · have hit : its[i]? = some its[i] := by simp [hlt]
        obtain ⟨go, yld⟩ := w1 i _ hit
        rw [List.drop_eq_getElem_cons hlt] at q
        refine .inr ⟨go, fun H' => ∃ Hf acc us M, Ext Hf1 H1 Hf H' ∧ H' D = some (.lst us) ∧ RepOs K Hf H' acc us M ∧ Nw H1 Hf H' (D :: M) ∧ PostE c K s Hf1 H1 Q (lcL fg ft f (wipeE r vs) (its.drop (i + 1)) acc),
          fun H' h => ⟨its.length - (i + 1), by omega, rfl, hlt, h⟩, fun x H3 hy => ?_⟩
        obtain ⟨Hf3, x3, a3⟩ := yld x H3 hy
        obtain ⟨Lw, srw, hwl, hsub⟩ := (sr2.mono x3).wipe vs hv'
        unfold lcL at q
        cases eg : fg its[i] (wipeE r vs) with
        | none => rw [eg] at q; exact q.elim
        | some r1 =>
          rw [eg] at q
          dsimp only at q
          refine hg _ x (wipeE r vs) r1 (wipe s vs) Hf3 H3 Lw ⟨srw.ext, srw.env, srw.nd, srw.fr, srw.ok⟩ a3 eg _ fun s1 L1 srb hw => ?_
          refine ⟨by rw [hw, wipe_wipe], ?_⟩
          refine ht r1 s1 Hf3 H3 L1 srb _ ?_
          have keepM : ∀ a ∈ D :: M, H a ≠ none := fun a ha => (nw.fr a ha).2.2
          cases et : ft r1 with
          | bad => rw [et] at q; exact q.elim
          | exc e' => rw [et] at q; exact q.elim
          | ok b =>
            intro Hf4 H4 x4
            cases b with
            | false =>
              rw [et] at q
              have xB := x3.trans x4
              exact ⟨Hf4, acc, us, M, x2.trans xB, xB.same _ _ hDl, RepOs.mono xB.fsame acc us M (fun a _ u q => xB.same a u q) ha, ⟨nw.nd, fun a ha => ⟨(nw.fr a ha).1, xB.nf (keepM a ha) (nw.fr a ha).2.1, ne_none_of xB.same (keepM a ha)⟩⟩, q⟩
            | true =>
              rw [et] at q
              dsimp only at q
              refine he r1 s1 Hf4 H4 L1 (srb.mono x4) _ ?_
              cases ef : f r1 with
              | bad => rw [ef] at q; exact q.elim
              | exc e' => rw [ef] at q; exact q.elim
              | ok y =>
                rw [ef] at q
                dsimp only at q
                intro v Hf5 H5 L5 x5 a5 n5
                cases y with
                | vw o => exact q.elim
                | bw o => exact q.elim
                | nw o =>
                  simp only [newO] at q
                  by_cases hz : acc.length ≤ 100000
                  · rw [if_pos hz] at q
                    have xB := (x3.trans x4).trans x5
                    have hD5 := xB.same _ _ hDl
                    have hl : us.length = acc.length := RepOs.length ha
                    have nD : Hf5 D = none := xB.nf (keepM D List.mem_cons_self) (nw.fr D List.mem_cons_self).2.1
                    have new5 : ∀ a ∈ L5, a ∉ D :: M := fun a h5 hm => ne_none_of (x3.trans x4).same (keepM a hm) (n5.fr a h5).1
                    have ndm := List.nodup_cons.mp nw.nd
                    refine ⟨us, hD5, Nat.lt_of_le_of_lt (show us.length ≤ 100000 by omega) (by decide), Hf5, acc ++ [o], us ++ [v], M ++ L5, ⟨fun a u e => ?_, (x2.trans xB).fsame, fun a u e => ?_, (x2.trans xB).keep⟩, upd_same, ?_, ⟨?_, fun a ha' => ?_⟩, q⟩
                    · rw [upd_ne (ne_of_none e hD)]; exact (x2.trans xB).same a u e
                    · rw [upd_ne (ne_of_none e nD)]; exact xB.sub a u e
                    · refine RepOs.append (RepOs.mono xB.fsame acc us M (fun a hm u q => ?_) ha) (RepO.mono (Same.refl _) o v L5 (fun a hm u q => ?_) a5)
                      · rw [upd_ne (fun (e : a = D) => ndm.1 (by rw [← e]; exact hm))]; exact xB.same a u q
                      · rw [upd_ne (fun e => new5 a hm (by rw [e]; exact List.mem_cons_self))]; exact q
                    · refine List.nodup_cons.mpr ⟨fun hm => ?_, List.nodup_append.mpr ⟨ndm.2, n5.nd, fun a h1 b h2 e => ?_⟩⟩
                      · rcases List.mem_append.mp hm with hm | hm
                        · exact ndm.1 hm
                        · exact new5 D hm List.mem_cons_self
                      · subst e; exact new5 a h2 (List.mem_cons_of_mem _ h1)
                    · rcases List.mem_cons.mp ha' with e | hm
                      · subst e
                        exact ⟨hD, nD, by rw [upd_same]; simp⟩
                      · rcases List.mem_append.mp hm with hm | hm
                        · have hm' := List.mem_cons_of_mem D hm
                          exact ⟨(nw.fr a hm').1, xB.nf (keepM a hm') (nw.fr a hm').2.1, by rw [upd_ne (fun (e : a = D) => ndm.1 (by rw [← e]; exact hm))]; exact ne_none_of xB.same (keepM a hm')⟩
                        · refine ⟨?_, (n5.fr a hm).2.1, ?_⟩
                          · exact (x2.trans (x3.trans x4)).fresh (n5.fr a hm).1
                          · rw [upd_ne (fun e => new5 a hm (by rw [e]; exact List.mem_cons_self))]; exact (n5.fr a hm).2.2
                  · rw [if_neg hz] at q; exact q.elim
      · have e : i = its.length := by omega
        subst e
        rw [List.drop_length] at q
        exact .inl ⟨w2, q (.ref D) Hf H (D :: M) x2 ⟨D, us, M, rfl, hDl, ha, rfl⟩ nw⟩
    · rw [if_neg hvs] at q; exact q.elim
def eLcD (fi : Env → Res (List R)) (fg : FG) (vs : List Nat) (ft : Env → Res Bool) (f : FE) : FE := fun r => (fi r).bind fun its => if vs.all (· < r.length) then lcL fg ft f (wipeE r vs) its [] else .bad
/-- a block's judgements hold in every block: one reading serves all -/
abbrev blkE (X : Cx) (scope : Scope) (s : Shared) (H : Hp) (C : Addr) (cl : List (Str × Addr)) (fp : List Addr) : Cx := X.blk s H scope (compEnvC scope cl C X.env) fp
theorem all_E {scope : Scope} (h : ∀ s H C cl fp, DE c (blkE X scope s H C cl fp) e f) : ∃ te, (∀ s H C cl fp, PE (blkE X scope s H C cl fp) e te) ∧ SoE c X.K te f := by
  refine ⟨fun σ H Q => ∀ s H0 C cl fp, (h s H0 C cl fp).ex.choose σ H Q, fun s H0 C cl fp => ⟨fun pins s' σ H Q I q => (h s H0 C cl fp).ex.choose_spec.1.run pins s' σ H Q I (q s H0 C cl fp)⟩, fun r s Hf H L sr Q q s' H0 C cl fp => (h s' H0 C cl fp).ex.choose_spec.2 r s Hf H L sr Q q⟩
theorem all_T {scope : Scope} {t : Expr} (h : ∀ s H C cl fp, DT c (blkE X scope s H C cl fp) t ft) : ∃ te, (∀ s H C cl fp, PT (blkE X scope s H C cl fp) t te) ∧ SoT c X.K te ft := by
  refine ⟨fun σ H Q => ∀ s H0 C cl fp, (h s H0 C cl fp).ex.choose σ H Q, fun s H0 C cl fp => ⟨fun pins s' σ H Q I q => (h s H0 C cl fp).ex.choose_spec.1.run pins s' σ H Q I (q s H0 C cl fp)⟩, fun r s Hf H L sr Q q s' H0 C cl fp => (h s' H0 C cl fp).ex.choose_spec.2 r s Hf H L sr Q q⟩
theorem all_G {scope : Scope} {tg : Expr} {fg : FG} {vs : List Nat} (h : ∀ s H C cl fp, DG c (blkE X scope s H C cl fp) tg fg vs) : ∃ te, (∀ s H C cl fp, PG (blkE X scope s H C cl fp) tg te) ∧ SoG c X.K te fg vs := by
  refine ⟨fun v σ H Q => ∀ s H0 C cl fp, (h s H0 C cl fp).ex.choose v σ H Q, fun s H0 C cl fp => ⟨fun pins s' σ H v u Q I rv q => (h s H0 C cl fp).ex.choose_spec.1.run pins s' σ H v u Q I rv (q s H0 C cl fp)⟩, fun x v r r1 s Hf H L sr a1 e Q q s' H0 C cl fp => (h s' H0 C cl fp).ex.choose_spec.2 x v r r1 s Hf H L sr a1 e Q q⟩
section
variable {k : Nat} {elt tg iter : Expr} {scope : Scope} {own : List (Str × Nat)} {fi : Env → Res (List R)} {fg : FG}
/-- [elt for tg in iter] -/
theorem de_lc (B : Bk c X k) (hN : X.N.Nodup) (hi : DI c X tg iter fi) (ok : BlkOk X.N X.env.scope scope own) (hg : ∀ s H C cl fp, DG c.blk (blkE X scope s H C cl fp) tg fg (own.map (·.2))) (he : ∀ s H C cl fp, DE c.blk (blkE X scope s H C cl fp) elt f)
    (hs : ∀ x, foldedSetIterable iter X.env x = pure x := by intro _; rfl) : DE c X (.ListComp elt [⟨tg, iter, [], 0⟩] scope pos) (eLcD fi fg (own.map (·.2)) tYesD f) := by
  obtain ⟨wi, p1, s1⟩ := hi.ex
  obtain ⟨g, p2, s2⟩ := all_G hg
  obtain ⟨te, p3, s3⟩ := all_E he
  refine ⟨_, pe_lc (own := own) B.calm hN p1 ok p2 (fun _ _ _ _ _ => pts_nil) p3 hs, so_lc s1 s2 (fun r s Hf H L sr Q q => q Hf H (Ext.refl sr.sub)) s3⟩
theorem de_lcIf {t : Expr} (B : Bk c X k) (hN : X.N.Nodup) (hi : DI c X tg iter fi) (ok : BlkOk X.N X.env.scope scope own) (hg : ∀ s H C cl fp, DG c.blk (blkE X scope s H C cl fp) tg fg (own.map (·.2))) (ht : ∀ s H C cl fp, DT c.blk (blkE X scope s H C cl fp) t ft) (he : ∀ s H C cl fp, DE c.blk (blkE X scope s H C cl fp) elt f)
    (hs : ∀ x, foldedSetIterable iter X.env x = pure x := by intro _; rfl) : DE c X (.ListComp elt [⟨tg, iter, [t], 0⟩] scope pos) (eLcD fi fg (own.map (·.2)) ft f) := by
  obtain ⟨wi, p1, s1⟩ := hi.ex
  obtain ⟨g, p2, s2⟩ := all_G hg
  obtain ⟨te, p3, s3⟩ := all_E he
  obtain ⟨tt, p4, s4⟩ := all_T ht
  refine ⟨_, pe_lc (own := own) B.calm hN p1 ok p2 (fun s H C cl fp => pts_one (p4 s H C cl fp)) p3 hs, so_lc s1 s2 s4 s3⟩
/-- y = [elt for tg in iter] -/
theorem ds_lc {i : Nat} {y : Str} {py : Pos} {spos : Pos} (own' : Bool) (B : Bk c X k) (hN : X.N.Nodup) (hy : X.N[i]? = some y) (hyl : X.env.scope.names.lookup y = some .local)
    (hsw : swapsWith (.ListComp elt [⟨tg, iter, [], 0⟩] scope pos) (some (.Name y py)) spos.line X.env = pure true) (hi : DI c X tg iter fi) (ok : BlkOk X.N X.env.scope scope own) (hg : ∀ s H C cl fp, DG c.blk (blkE X scope s H C cl fp) tg fg (own.map (·.2))) (he : ∀ s H C cl fp, DE c.blk (blkE X scope s H C cl fp) elt f)
    (hs : ∀ x, foldedSetIterable iter X.env x = pure x := by intro _; rfl) : DS c X (.Assign [.Name y py] (.ListComp elt [⟨tg, iter, [], 0⟩] scope pos) spos) (sSet i own' (eLcD fi fg (own.map (·.2)) tYesD f)) := by
  obtain ⟨wi, p1, s1⟩ := hi.ex
  obtain ⟨g, p2, s2⟩ := all_G hg
  obtain ⟨te, p3, s3⟩ := all_E he
  refine ⟨_, ps_setLc (own := own) B.calm hN hy hyl hsw p1 ok p2 (fun _ _ _ _ _ => pts_nil) p3 hs, so_set (so_lc s1 s2 (fun r s Hf H L sr Q q => q Hf H (Ext.refl sr.sub)) s3)⟩
theorem ds_lcIf {t : Expr} {i : Nat} {y : Str} {py : Pos} {spos : Pos} (own' : Bool) (B : Bk c X k) (hN : X.N.Nodup) (hy : X.N[i]? = some y) (hyl : X.env.scope.names.lookup y = some .local)
    (hsw : swapsWith (.ListComp elt [⟨tg, iter, [t], 0⟩] scope pos) (some (.Name y py)) spos.line X.env = pure true) (hi : DI c X tg iter fi) (ok : BlkOk X.N X.env.scope scope own) (hg : ∀ s H C cl fp, DG c.blk (blkE X scope s H C cl fp) tg fg (own.map (·.2))) (ht : ∀ s H C cl fp, DT c.blk (blkE X scope s H C cl fp) t ft) (he : ∀ s H C cl fp, DE c.blk (blkE X scope s H C cl fp) elt f)
    (hs : ∀ x, foldedSetIterable iter X.env x = pure x := by intro _; rfl) : DS c X (.Assign [.Name y py] (.ListComp elt [⟨tg, iter, [t], 0⟩] scope pos) spos) (sSet i own' (eLcD fi fg (own.map (·.2)) ft f)) := by
  obtain ⟨wi, p1, s1⟩ := hi.ex
  obtain ⟨g, p2, s2⟩ := all_G hg
  obtain ⟨te, p3, s3⟩ := all_E he
  obtain ⟨tt, p4, s4⟩ := all_T ht
  refine ⟨_, ps_setLc (own := own) B.calm hN hy hyl hsw p1 ok p2 (fun s H C cl fp => pts_one (p4 s H C cl fp)) p3 hs, so_set (so_lc s1 s2 s4 s3)⟩
/-- what a block knows -/
theorem Bk.blk {s : Shared} {H : Hp} {C : Addr} {cl : List (Str × Addr)} {fp : List Addr} (B : Bk c X k) : Bk c.blk (blkE X scope s H C cl fp) k := ⟨B.hr, takes0, PassesOwn.never, B.calm⟩
end
end DL

namespace DL
open PySem L2
variable {c : Cn} {X : Cx} {a b e : Expr} {es : List Expr} {f g fa fb : FE} {pos : Pos} {fs : Env → Res (List O)} {K : PySem.W.Frag} {H0 H H' Hf Hf' : Hp} {F G : FS} {st : Stmt} {sts : List Stmt} {ft : Env → Res Bool}
/-! range with a step -/
def rng3 : List O → Res (List R)
  | [.fz (.int i), .fz (.int j), .fz (.int k)] => if decide (k ≠ 0) && decide (k.natAbs < 1073741824) && Builtin.Range.small i j k && decide (0 ≤ Builtin.Range.rangeSize i j k) then .ok ((List.range (Builtin.Range.rangeSize i j k).toNat).map fun (n : Nat) => intR (i + (n : Nat) * k)) else .bad
  | _ => .bad
theorem wk_rngC {lo k : Int} {n : Nat} : Wk K H0 Hf ((List.range n).map fun (m : Nat) => intR (lo + (m : Nat) * k)) (Itc lo k n) := fun Hf2 H2 f1 f2 f3 => by
  refine ⟨fun i it hi => ?_, by show n ≤ _; simp⟩
  have hlt : i < n := by
    have := (List.getElem?_eq_some_iff.mp hi).1
    simpa using this
  refine ⟨hlt, fun x H3 ⟨eH, ex⟩ => ?_⟩
  subst eH ex
  have e : ((List.range n).map fun (m : Nat) => intR (lo + (m : Nat) * k))[i]? = some (intR (lo + (i : Nat) * k)) := by simp [hlt]
  rw [e] at hi
  cases hi
  exact ⟨Hf2, Ext.refl f2, rfl⟩
theorem ints3 {os : List O} {vs : List V} {β : Type} {k : Int → Int → Int → Res β} {g : List O → Res β} (hg : ∀ os, g os = match os with | [.fz (.int i), .fz (.int j), .fz (.int m)] => k i j m | _ => .bad) (h : RepVs K Hf H os vs) : g os = .bad ∨ ∃ i j m, g os = k i j m ∧ vs = [.int i, .int j, .int m] := by
  rw [hg]
  split
  · rename_i i j m
    obtain ⟨v, r, e1, h1, v2, r2, e2, h2, v3, r3, e3, h3, h4⟩ := h
    have h4' : r3 = [] := h4
    have h1' : v = .int i := h1
    have h2' : v2 = .int j := h2
    have h3' : v3 = .int m := h3
    subst h4' h1' h2' h3' e3 e2 e1
    exact .inr ⟨i, j, m, rfl, rfl⟩
  · exact .inl rfl
theorem di_rng3 {tg e e2 e3 : Expr} {p pos : Pos} (hg : Gl X "range") (hm : X.mg "range" = none) (h : DA c X [e, e2, e3] fs) (hs : starEach [e, e2, e3] X.env = (false, eval e X.env) :: starEach [e2, e3] X.env := by rfl) (hpl : (backTo pos (starEach [e2, e3] X.env)).any (·.1) = false := by rfl) :
    DI c X tg (.Call (.Name "range" p) [e, e2, e3] [] pos) (iRng rng3 fs) := by
  obtain ⟨t, pa, s⟩ := h.ex
  refine ⟨iRng3 t, pi_range3 hg hm pa hs hpl, fun r s' Hf H L sr Q q => ?_⟩
  refine s.run sr pstI q fun os vs Hf1 H1 x1 sr1 a1 q1 => ?_
  rcases ints3 (k := fun i j k => if decide (k ≠ 0) && decide (k.natAbs < 1073741824) && Builtin.Range.small i j k && decide (0 ≤ Builtin.Range.rangeSize i j k) then .ok ((List.range (Builtin.Range.rangeSize i j k).toNat).map fun (n : Nat) => intR (i + (n : Nat) * k)) else .bad) (g := rng3) (fun os => by unfold rng3; rfl) a1 with e0 | ⟨i, j, k, e0, ev⟩
  · rw [e0] at q1; exact q1.elim
  · rw [e0] at q1
    by_cases hj : (decide (k ≠ 0) && decide (k.natAbs < 1073741824) && Builtin.Range.small i j k && decide (0 ≤ Builtin.Range.rangeSize i j k)) = true
    · rw [if_pos hj] at q1
      simp only [Bool.and_eq_true, decide_eq_true_eq] at hj
      exact ⟨i, j, k, _, ev, ⟨hj.1.1.1, hj.1.1.2, hj.1.2, by rw [Int.toNat_of_nonneg hj.2]⟩, q1 _ Hf1 H1 (Ext.refl sr1.sub) wk_rngC⟩
    · rw [if_neg hj] at q1; exact q1.elim
/-! tuples made on the way -/
theorem Ext.newT {p : Addr} {vs : List V} (sub : Same Hf H) (hp : H p = none) : Ext Hf H (upd Hf p (.tup vs)) (upd H p (.tup vs)) :=
  ⟨fun a u e => by rw [upd_ne (ne_of_none e hp)]; exact e, fun a u e => by rw [upd_ne (ne_of_none e (sub_none sub hp))]; exact e, fun a u e => by
    by_cases ha : a = p
    · subst ha; rw [upd_same] at e ⊢; exact e
    · rw [upd_ne ha] at e ⊢; exact sub a u e, fun a h1 h2 => by
    by_cases ha : a = p
    · subst ha; exact absurd hp h1
    · rw [upd_ne ha] at h2; exact h2⟩
def fzOf : R → Option D
  | .nw (.fz d) => some d
  | _ => none
def fzsOf : List R → Option (List D)
  | [] => some []
  | x :: xs => (fzOf x).bind fun d => (fzsOf xs).map (d :: ·)
theorem fzsOf_get : ∀ {its : List R} {ds : List D} {i : Nat} {d : D}, fzsOf its = some ds → ds[i]? = some d → its[i]? = some (.nw (.fz d))
  | [], ds, i, d, e, h => by
    have e' : ds = [] := by simpa [fzsOf] using e.symm
    subst e'; simp at h
  | x :: xs, ds, i, d, e, h => by
    cases e1 : fzOf x with
    | none => simp [fzsOf, e1] at e
    | some d1 =>
      cases e2 : fzsOf xs with
      | none => simp [fzsOf, e1, e2] at e
      | some ds1 =>
        have e' : d1 :: ds1 = ds := by simpa [fzsOf, e1, e2] using e
        subst e'
        cases i with
        | zero =>
          have h' : d1 = d := by simpa using h
          subst h'
          cases x with
          | nw o => cases o with
            | fz d0 => have e3 : d0 = d1 := Option.some.inj e1; subst e3; rfl
            | ls _ => cases e1
            | tp _ => cases e1
          | vw _ => cases e1
          | bw _ => cases e1
        | succ i => simpa using fzsOf_get (i := i) e2 (by simpa using h)
theorem fzsOf_length : ∀ {its : List R} {ds : List D}, fzsOf its = some ds → ds.length = its.length
  | [], ds, e => by have e' : ds = [] := by simpa [fzsOf] using e.symm
                    subst e'; rfl
  | x :: xs, ds, e => by
    cases e1 : fzOf x with
    | none => simp [fzsOf, e1] at e
    | some d1 =>
      cases e2 : fzsOf xs with
      | none => simp [fzsOf, e1, e2] at e
      | some ds1 =>
        have e' : d1 :: ds1 = ds := by simpa [fzsOf, e1, e2] using e
        subst e'
        simp [fzsOf_length e2]
def tup2 (a b : D) : R := .nw (.fz (.tup [a, b]))
def enumL (ds : List D) : List R := ds.zipIdx.map fun p => tup2 (.int (p.2 : Nat)) p.1
def enumR (its : List R) : Res (List R) := match fzsOf its with
  | some ds => .ok (enumL ds)
  | none => .bad
def one1 {β : Type} (k : R → Res β) (x : R) : Res β := k x
def iEnumD (f : FE) : Env → Res (List R) := fun r => (f r).bind fun x => (itsL x).bind enumR
/-- one argument, kept as it is -/
theorem so_one {t : TE} (h : SoE c K t f) {r : Env} {s : St} {L : List Addr} (sr : c.SR K r s Hf H L) {β : Type} {post : Hp → Hp → Res β → Prop} (P : Pst c K s post) {k : R → Res β} (hp : post Hf H ((f r).bind k)) {Q : List V → Hp → Prop}
    (hq : ∀ x v Hf1 H1, Ext Hf H Hf1 H1 → c.SR K r s Hf1 H1 L → ArgR K c.H0 Hf1 H1 x v → post Hf1 H1 (k x) → Q [v] H1) : tCons t tNil s H Q :=
  h.run sr P hp fun x v Hf1 H1 x1 sr1 a1 q1 => hq x v Hf1 H1 x1 sr1 a1 q1
theorem itsL_exc {x : R} {e : Ec} : itsL x ≠ .exc e := by
  intro e1
  cases x <;> simp only [itsL] at e1 <;> (try split at e1) <;> cases e1
theorem di_enum {p pos tpos : Pos} {elts : List Expr} {kk : Nat} (hg : Gl X "enumerate") (hm : X.mg "enumerate" = none) (h : DE c X e f) (hs : starEach [e] X.env = [(false, eval e X.env)] := by rfl) (hs2 : starEach [e] X.env = (false, eval e X.env) :: starEach [] X.env := by rfl) :
    DI c X (.Tuple elts kk tpos) (.Call (.Name "enumerate" p) [e] [] pos) (iEnumD f) := by
  obtain ⟨t, pe, s⟩ := h.ex
  refine ⟨iEnum X.K (tCons t tNil), pi_enum hg hm (pa_cons pe pa_nil hs2) hs, fun r s' Hf H L sr Q q => ?_⟩
  refine so_one s sr pstI q fun x v Hf1 H1 x1 sr1 a1 q1 => ?_
  cases e1 : itsL x with
  | bad => rw [e1] at q1; exact q1.elim
  | exc e' => exact absurd e1 itsL_exc
  | ok its =>
    rw [e1] at q1
    have q1 : PostI c X.K s' Hf1 H1 Q (enumR its) := q1
    obtain ⟨a, vs, e2, hl, h1, h2⟩ := itsL_ok sr1.sub sr1.same0 a1 e1
    cases e3 : fzsOf its with
    | none => simp only [enumR, e3] at q1; exact q1.elim
    | some ds =>
      simp only [enumR, e3] at q1
      have hds := fzsOf_length e3
      refine ⟨a, vs, by rw [e2], h1, q1 (Ite X.K a) Hf1 H1 (Ext.refl sr1.sub) fun Hf2 H2 f1 f2 f3 => ?_⟩
      obtain ⟨g1, g2⟩ := h2 Hf2 H2 f1 f2 f3
      refine ⟨fun i it hi => ?_, ⟨vs, g1, by simp [enumL]; omega⟩⟩
      have hlt : i < ds.length := by
        have := (List.getElem?_eq_some_iff.mp hi).1
        simpa [enumL] using this
      have ei : (enumL ds)[i]? = some (tup2 (.int (i : Nat)) ds[i]) := by simp [enumL, hlt]
      rw [ei] at hi
      cases hi
      obtain ⟨w, hw, aw⟩ := g2 i _ (fzsOf_get e3 (show ds[i]? = some ds[i] by simp [hlt]))
      refine ⟨⟨vs, w, g1, hw⟩, fun x H3 ⟨T, y, ex, hT, eH, hx⟩ => ?_⟩
      have ew := hx vs g1
      rw [hw] at ew
      cases ew
      subst eH ex
      have xt := Ext.newT (vs := [.int (i : Nat), w]) f2 hT
      exact ⟨_, xt, T, [.int (i : Nat), w], rfl, upd_same, _, _, rfl, rfl, w, [], rfl, Rep.mono xt.fsame _ _ aw, rfl⟩
/-- zip of two lists -/
def zipL (ds es : List D) : List R := (ds.zip es).map fun p => tup2 p.1 p.2
def zipR (x y : List R) : Res (List R) := match fzsOf x, fzsOf y with
  | some ds, some es => .ok (zipL ds es)
  | _, _ => .bad
def iZipD (f g : FE) : Env → Res (List R) := fun r => (f r).bind fun x => (g r).bind fun y => (itsL x).bind fun a => (itsL y).bind fun b => zipR a b
theorem di_zip {e2 : Expr} {p pos tpos : Pos} {elts : List Expr} {kk : Nat} (hg : Gl X "zip") (hm : X.mg "zip" = none) (h : DE c X e f) (h2 : DE c X e2 g)
    (hs : starEach [e, e2] X.env = (false, eval e X.env) :: starEach [e2] X.env := by rfl) (hpl : (backTo pos (starEach [e2] X.env)).any (·.1) = false := by rfl) (hs2 : starEach [e2] X.env = (false, eval e2 X.env) :: starEach [] X.env := by rfl) :
    DI c X (.Tuple elts kk tpos) (.Call (.Name "zip" p) [e, e2] [] pos) (iZipD f g) := by
  obtain ⟨t, pe, s⟩ := h.ex
  obtain ⟨u, pe2, s2⟩ := h2.ex
  refine ⟨iZip X.K (tCons t (tCons u tNil)), pi_zip hg hm (pa_cons pe (pa_cons pe2 pa_nil hs2) hs) hs hpl, fun r s' Hf H L sr Q q => ?_⟩
  refine s.run sr pstI q fun x v Hf1 H1 x1 sr1 a1 q1 => ?_
  refine s2.run sr1 pstI q1 fun y w Hf2 H2 x2 sr2 a2 q2 => ?_
  have a1 := a1.mono x2.fsame x2.same
  cases e1 : itsL x with
  | bad => rw [e1] at q2; exact q2.elim
  | exc e' => exact absurd e1 itsL_exc
  | ok its =>
    cases e2' : itsL y with
    | bad => rw [e1, e2'] at q2; exact q2.elim
    | exc e' => exact absurd e2' itsL_exc
    | ok jts =>
      rw [e1, e2'] at q2
      have q2 : PostI c X.K s' Hf2 H2 Q (zipR its jts) := q2
      obtain ⟨a, vs, ea, hl, h1, h2⟩ := itsL_ok sr2.sub sr2.same0 a1 e1
      obtain ⟨b, ws, eb, hl2, h3, h4⟩ := itsL_ok sr2.sub sr2.same0 a2 e2'
      cases e3 : fzsOf its with
      | none => simp only [zipR, e3] at q2; exact q2.elim
      | some ds =>
        cases e4 : fzsOf jts with
        | none => simp only [zipR, e3, e4] at q2; exact q2.elim
        | some es =>
          simp only [zipR, e3, e4] at q2
          have hds := fzsOf_length e3
          have hes := fzsOf_length e4
          refine ⟨a, b, vs, ws, by rw [ea, eb], h1, h3, q2 (Itz X.K a b) Hf2 H2 (Ext.refl sr2.sub) fun Hf3 H3 f1 f2 f3 => ?_⟩
          obtain ⟨g1, g2⟩ := h2 Hf3 H3 f1 f2 f3
          obtain ⟨g3, g4⟩ := h4 Hf3 H3 f1 f2 f3
          have hlz : (zipL ds es).length = min ds.length es.length := by simp [zipL]
          refine ⟨fun i it hi => ?_, ⟨vs, ws, g1, g3, ?_⟩⟩
          · have hlt : i < min ds.length es.length := by
              have := (List.getElem?_eq_some_iff.mp hi).1
              rw [hlz] at this; exact this
            have h5 : i < ds.length := by omega
            have h6 : i < es.length := by omega
            have ei : (zipL ds es)[i]? = some (tup2 ds[i] es[i]) := by
              unfold zipL
              rw [List.getElem?_map, List.getElem?_eq_getElem (by rw [List.length_zip]; exact hlt), List.getElem_zip]; rfl
            rw [ei] at hi
            cases hi
            obtain ⟨w1, hw1, aw1⟩ := g2 i _ (fzsOf_get e3 (show ds[i]? = some ds[i] by simp [h5]))
            obtain ⟨w2, hw2, aw2⟩ := g4 i _ (fzsOf_get e4 (show es[i]? = some es[i] by simp [h6]))
            refine ⟨⟨vs, ws, w1, w2, g1, g3, hw1, hw2⟩, fun x H4 ⟨T, y1, y2, ex, hT, eH, hx, hy⟩ => ?_⟩
            have ew := hx vs g1
            rw [hw1] at ew
            cases ew
            have ew2 := hy ws g3
            rw [hw2] at ew2
            cases ew2
            subst eH ex
            have xt := Ext.newT (vs := [w1, w2]) f2 hT
            exact ⟨_, xt, T, [w1, w2], rfl, upd_same, _, _, rfl, Rep.mono xt.fsame _ _ aw1, w2, [], rfl, Rep.mono xt.fsame _ _ aw2, rfl⟩
          · rw [hlz]; omega
/-- reversed of a list -/
def iRevD (f : FE) : Env → Res (List R) := fun r => (f r).bind fun x => (itsL x).bind fun its => .ok its.reverse
theorem di_rev {tg : Expr} {p pos : Pos} (hg : Gl X "reversed") (hm : X.mg "reversed" = none) (h : DE c X e f) (hs : starEach [e] X.env = [(false, eval e X.env)] := by rfl) (hs2 : starEach [e] X.env = (false, eval e X.env) :: starEach [] X.env := by rfl) :
    DI c X tg (.Call (.Name "reversed" p) [e] [] pos) (iRevD f) := by
  obtain ⟨t, pe, s⟩ := h.ex
  refine ⟨iRev X.K (tCons t tNil), pi_reversed hg hm (pa_cons pe pa_nil hs2) hs, fun r s' Hf H L sr Q q => ?_⟩
  refine so_one s sr pstI q fun x v Hf1 H1 x1 sr1 a1 q1 => ?_
  cases e1 : itsL x with
  | bad => rw [e1] at q1; exact q1.elim
  | exc e' => exact absurd e1 itsL_exc
  | ok its =>
    rw [e1] at q1
    obtain ⟨a, vs, e2, hl, h1, h2⟩ := itsL_ok sr1.sub sr1.same0 a1 e1
    refine ⟨a, vs, by rw [e2], h1, q1 (Itv X.K a vs.length) Hf1 H1 (Ext.refl sr1.sub) fun Hf2 H2 f1 f2 f3 => ?_⟩
    obtain ⟨g1, g2⟩ := h2 Hf2 H2 f1 f2 f3
    refine ⟨fun i it hi => ?_, by show vs.length ≤ _; simp; omega⟩
    have hlt : i < its.length := by
      have := (List.getElem?_eq_some_iff.mp hi).1
      simpa using this
    rw [List.getElem?_reverse hlt] at hi
    obtain ⟨w, hw, aw⟩ := g2 _ it hi
    rw [hl]
    refine ⟨⟨hlt, vs, w, g1, hw⟩, fun x H3 ⟨eH, hx⟩ => ?_⟩
    have ew := hx vs g1
    rw [hw] at ew
    cases ew
    subst eH
    exact ⟨Hf2, Ext.refl f2, aw⟩
end DL

namespace DL
open PySem L2
variable {c : Cn} {X : Cx} {a b e : Expr} {es : List Expr} {f g fa fb : FE} {pos : Pos} {fs : Env → Res (List O)} {K : PySem.W.Frag} {H0 H H' Hf Hf' : Hp} {F G : FS} {st : Stmt} {sts : List Stmt} {ft : Env → Res Bool}
/-! a name's own list is frozen: nothing is done, but from then on it isn't changed -/
def sFrz (i : Nat) : FS := fun r => match r[i]? with
  | some (.vl true o) => .nx (r.set i (.vl true (.fz (er o))))
  | some (.vl false (.fz d)) => .nx (r.set i (.vl true (.fz d)))
  | _ => .bad
theorem SR.freeze {r : Env} {s : St} {L : List Addr} {i : Nat} {o : O} (sr : c.SR K r s Hf H L) (e : r[i]? = some (.vl true o)) : ∃ Hf2 L2, Same Hf Hf2 ∧ c.SR K (r.set i (.vl true (.fz (er o)))) s Hf2 H L2 := by
  obtain ⟨y, A, M, B, h1, h2, h3, h4⟩ := sr.env.at e
  cases y with
  | none => exact h3.elim
  | some v =>
    have hM : ∀ a ∈ M, a ∈ L := fun a ha => by rw [h2]; simp [ha]
    have nM : ∀ a ∈ M, Hf a = none := fun a ha => (sr.fr a (hM a ha)).1
    have f := addF_same (Hf := Hf) (H := H) nM
    have nd := sr.nd
    rw [h2] at nd
    simp only [List.nodup_append, List.mem_append] at nd
    obtain ⟨⟨n1, n2, d1⟩, n3, d2⟩ := nd
    have sub2 : ∀ a ∈ A ++ [] ++ B, a ∈ L := fun a ha => by
      rw [h2]; simp only [List.mem_append, List.not_mem_nil, or_false] at ha ⊢
      rcases ha with ha | ha
      · exact .inl (.inl ha)
      · exact .inr ha
    have out : ∀ a ∈ A ++ [] ++ B, a ∉ M := fun a ha hm => by
      simp only [List.mem_append, List.not_mem_nil, or_false] at ha
      rcases ha with ha | ha
      · exact d1 a ha a hm rfl
      · exact d2 a (.inr hm) a ha rfl
    have env' := h4 (addF Hf H M) H (.vl true (.fz (er o))) (some v) [] f (fun _ _ _ e => e) ⟨RepO.frozen _ f o v M (fun a ha => addF_in ha) h3, rfl⟩
    have es : s.set i (some v) = s := by
      obtain ⟨hl, hg⟩ := List.getElem?_eq_some_iff.mp h1
      rw [← hg]; exact List.set_getElem_self hl
    rw [es] at env'
    refine ⟨addF Hf H M, A ++ [] ++ B, f, ⟨⟨sr.ext.same, sr.ext.fsame.trans f, addF_sub sr.sub, fun a h1 h2 => ?_⟩, env', ?_, fun a ha => ⟨by rw [addF_out (out a ha)]; exact (sr.fr a (sub2 a ha)).1, (sr.fr a (sub2 a ha)).2⟩, fun a ha => sr.ok a (sub2 a ha)⟩⟩
    · by_cases ha : a ∈ M
      · exact absurd (sr.fr a (hM a ha)).2 h1
      · rw [addF_out ha] at h2; exact sr.ext.keep a h1 h2
    · simp only [List.append_nil, List.nodup_append]
      exact ⟨n1, n3, fun a ha b hb => d2 a (.inl ha) b hb⟩
theorem dss_frz (i : Nat) (h : DSs c X sts F) : DSs c X sts (sSeq (sFrz i) F) := by
  obtain ⟨t, p, s⟩ := h.ex
  refine ⟨t, p, fun r s' Hf H L sr D q => ?_⟩
  cases er1 : r[i]? with
  | none => simp only [sSeq, sFrz, er1] at q; exact q.elim
  | some x =>
    cases x with
    | un => simp only [sSeq, sFrz, er1] at q; exact q.elim
    | vl w o =>
      cases w with
      | true =>
        simp only [sSeq, sFrz, er1] at q
        obtain ⟨Hf2, L2, f, sr2⟩ := sr.freeze er1
        exact s _ s' Hf2 H L2 sr2 D (q.mono f)
      | false =>
        cases o with
        | ls _ => simp only [sSeq, sFrz, er1] at q; exact q.elim
        | tp _ => simp only [sSeq, sFrz, er1] at q; exact q.elim
        | fz d =>
          simp only [sSeq, sFrz, er1] at q
          obtain ⟨y, A, M, B, h1, h2, h3, h4⟩ := sr.env.at er1
          cases y with
          | none => exact h3.elim
          | some v =>
            obtain ⟨h5, h6⟩ := h3
            subst h6
            have env' := h4 Hf H (.vl true (.fz d)) (some v) [] (Same.refl _) (fun _ _ _ e => e) ⟨h5, rfl⟩
            have es : s'.set i (some v) = s' := by
              obtain ⟨hl, hg⟩ := List.getElem?_eq_some_iff.mp h1
              rw [← hg]; exact List.set_getElem_self hl
            rw [es, ← h2] at env'
            exact s _ s' Hf H L ⟨sr.ext, env', sr.nd, sr.fr, sr.ok⟩ D q
/-! a def as the head tells it -/
section
variable {P : Program} {w : World} {mg : Str → Option Value} {base : Heap} {x qual : Str} {params : Arguments} {body : List Stmt} {scope : Scope} {fa : Addr} {fd : FuncData} {N ps : List Str} {k n : Nat}
theorem Def.ofD (Fn : FunD K x qual params body scope [] [] fa fd) (S : FnScope N ps scope) (hm : mg x = some (.ref fa)) (hb : Binds K fd ps []) (hn : ps.length = n) (F : FS)
    (hbody : ∀ (cdv : Value) (A : Around) (outer : List PySem.Env) (s : Shared) (H : Hp) (E : XK) (Hf : Hp), Bk ⟨Hf, H, fun cls d _ H' => E cls d H'⟩ (cxOf (L2.CX P w) P w K mg base N qual scope fa cdv A outer s H E) k →
      DSs ⟨Hf, H, fun cls d _ H' => E cls d H'⟩ (cxOf (L2.CX P w) P w K mg base N qual scope fa cdv A outer s H E) body F) : Def P w K mg base x (k + 1) n (runF N.length F) := by
  refine ⟨fa, fd, ps, ?_, hm, Fn.kp, hb, hn⟩
  subst hn
  refine Fn.ok S (fun vs H Q E h => ?_) (fun cdv A outer s H vs Q E hr h => ?_)
  · obtain ⟨Hf, os, _, h2, h3, _⟩ := h
    rw [RepVs.length h2, h3]
  · obtain ⟨Hf, os, sub, h2, h3, h4⟩ := h
    have B : Bk ⟨Hf, H, fun cls d _ H' => E cls d H'⟩ (cxOf (L2.CX P w) P w K mg base N qual scope fa cdv A outer s H E) k := ⟨hr, takes_of rfl rfl rfl rfl, passes_of rfl, rfl⟩
    obtain ⟨t, p, so⟩ := (hbody cdv A outer s H E Hf B).ex
    refine ⟨t, p, ?_⟩
    have hl : vs.length = os.length := RepVs.length h2
    have sr : SR K Hf H (startE N.length os) (L2.start N vs) Hf H [] := by
      refine ⟨Ext.refl sub, ?_, List.nodup_nil, (fun _ h => nomatch h), (fun _ h => nomatch h)⟩
      unfold startE L2.start
      rw [hl]
      exact env_start h2
    refine so _ _ Hf H [] sr _ ?_
    unfold runF at h4
    cases e : F (startE N.length os) with
    | ret o => rw [e] at h4; exact fun v Hf' H' L x q n => h4 v Hf' H' L x q n
    | nx r => rw [e] at h4; exact fun s Hf' H' L f sr' => h4 .non Hf' H' [] sr'.ext ⟨rfl, rfl⟩ nw_nil
    | bk r => rw [e] at h4; exact h4.elim
    | ct r => rw [e] at h4; exact h4.elim
    | exc e' r => rw [e] at h4; exact fun s cls d Hf' H' L _ sr' h => h4 cls d Hf' H' sr'.ext h
    | bad => rw [e] at h4; exact h4.elim
/-! the law -/
def spLaw (K : PySem.W.Frag) : Sp := fun vs H Q _ => ∃ (a : Addr) (ns : List Int), vs = [.ref a] ∧ SqL K H a (ns.map V.int) ∧ ns.length ≤ 63 ∧ ∀ H', Q (.bl true) H'
theorem law_ok {y : Str} (Fn : FunD K x qual params body scope [] [] fa fd) (S : FnScope N [y] scope) (F : FS)
    (hbody : ∀ (cdv : Value) (A : Around) (outer : List PySem.Env) (s : Shared) (H : Hp) (E : XK), Bk ⟨H, H, fun _ _ _ _ => False⟩ (cxOf CX0 P w K mg base N qual scope fa cdv A outer s H E).nox k →
      DSs ⟨H, H, fun _ _ _ _ => False⟩ (cxOf CX0 P w K mg base N qual scope fa cdv A outer s H E).nox body F)
    (hlaw : ∀ ns : List Int, ns.length ≤ 63 → runF N.length F [.fz (.scr ns)] = .ok (.fz (.bl true))) : FnOk P w K mg base CX0 (k + 1) fa fd [y] (spLaw K) := by
  refine Fn.ok S (fun vs H Q E h => ?_) (fun cdv A outer s H vs Q E hr h => ?_)
  · obtain ⟨a, ns, rfl, _⟩ := h
    rfl
  · obtain ⟨a, ns, rfl, hS, hl, hq⟩ := h
    have B : Bk ⟨H, H, fun _ _ _ _ => False⟩ (cxOf CX0 P w K mg base N qual scope fa cdv A outer s H E).nox k := ⟨hr, takes0, PassesOwn.never, rfl⟩
    obtain ⟨t, p, so⟩ := (hbody cdv A outer s H E B).ex
    refine ⟨t, p.nox, ?_⟩
    have h2 : RepVs K H H [.fz (.scr ns)] [.ref a] := ⟨_, _, rfl, ⟨a, rfl, hS⟩, rfl⟩
    have sr : SR K H H (startE N.length [.fz (.scr ns)]) (L2.start N [.ref a]) H H [] := by
      refine ⟨Ext.refl (Same.refl _), ?_, List.nodup_nil, (fun _ h => nomatch h), (fun _ h => nomatch h)⟩
      unfold startE L2.start
      exact env_start h2
    refine so _ _ H H [] sr _ ?_
    have h4 := hlaw ns hl
    unfold runF at h4
    cases e : F (startE N.length [.fz (.scr ns)]) with
    | ret o =>
      rw [e] at h4
      cases h4
      exact fun v Hf' H' L x q n => by
        have q' : v = .bl true := q.1
        subst q'
        exact hq H'
    | nx r => rw [e] at h4; cases h4
    | bk r => rw [e] at h4; cases h4
    | ct r => rw [e] at h4; cases h4
    | exc e' r => rw [e] at h4; cases h4
    | bad => rw [e] at h4; cases h4
end
end DL

namespace DL
open PySem L2
variable {c : Cn} {X : Cx} {a b e : Expr} {es : List Expr} {f g fa fb : FE} {pos : Pos} {fs : Env → Res (List O)} {K : PySem.W.Frag} {H0 H H' Hf Hf' : Hp} {F G : FS} {st : Stmt} {sts : List Stmt} {ft : Env → Res Bool}
/-! raise -/
/-- an own exception class without own __init__, by its name -/
structure Rx (K : PySem.W.Frag) (mg : Str → Option Value) (x : Str) : Prop where
  q : PySem.W.excIn K (He.ga K x) He.veBase "ValueError.__new__" = true
  g : mg x = some (.ref (He.ga K x))
  k : PySem.W.keepIn K (.ref (He.ga K x)) = true
  s : PySem.W.subIn K (.ref (He.ga K x)) (.type "BaseException") = some true
  t : PySem.W.typeIn K (.ref (He.ga K x)) = some (.type "type")
  n : PySem.W.nsIn K mainGlobals x = some (some (.ref (He.ga K x)))
theorem Rx.of {mg : Str → Option Value} {h : Heap} {x : Str} (Y : K.In h) (G : h.Ns mainGlobals mg) (c1 : (He.Fa.glo x).ok K = true) (c2 : (He.Fa.exc x).ok K = true) : Rx K mg x := by
  obtain ⟨h1, h2, h3, h4⟩ := He.exc_ok c2
  exact ⟨h1, He.glo_ok Y G c1, h2, h3, h4, He.eqO_ok c1⟩
def sRaise (x : Str) : FS := fun r => .exc ⟨x, []⟩ r
theorem ds_raise {k : Nat} {x m : Str} {j : Nat} {p p2 pos2 : Pos} (R : Rx X.K X.mg x) (B : Bk c X k) (hg : Gl X x) (hdb : (x == ("__debug__" : Str)) = false := by decide) :
    DS c X (.Raise (some (.Call (.Name x p) [.Constant (.str m) j p2] [] pos)) none pos2) (sRaise x) :=
  ⟨_, ps_raise B.calm B.tk (pmk_own PySem.F.excBase_ValueError R.q R.g R.k (raises_own R.s R.t) hg hdb), fun r s Hf H L sr D q => q s (.ref (He.ga X.K x)) none Hf H L (Same.refl _) sr ⟨_, rfl, R.n, rfl⟩⟩
/-! what is caught is known from then on -/
theorem exV_ok {P : Program} {w : World} {h : Heap} {o : Addr} {cls : Value} {d : Option Addr} {oe : Obj} {vs : Array Value} (e : h.get? o = some oe) (z : Zc cls d oe) (dt : oe.data = .fields vs) : ObjOk P w H h o (ExV cls d o) :=
  ⟨⟨oe, vs, e, z, dt⟩, ⟨oe, e⟩, fun _ _ ⟨u, v, q, r⟩ k => ⟨u, v, k u q, r⟩⟩
section
variable {pins : List (Addr × Obj)} {σ : St} {s : Shared}
/-- an object that stands, unknown so far and not there at the entry, is known from now on -/
theorem inv_known {x : Addr} {o : HO} (I : Inv X pins σ H s) (hn : H x = none) (h0 : X.s_0.heap.get? x = none) (hl : x ≠ X.env.locals) (hcl : ∀ y z, X.env.cells.lookup y = some z → x ≠ z) (hp : ∀ p ∈ X.pn ++ pins, p.1 ≠ x)
    (new : ObjOk X.prog X.w (upd H x o) s.heap x o) : Inv X pins σ (upd H x o) s := by
  have away : ∀ {b : Addr} {u : HO}, H b = some u → b ≠ x := fun {b u} e z => by rw [z, hn] at e; cases e
  have base : Un X.fs X.ex X.H_0 (upd H x o) X.s_0.heap s.heap := {
    keep := I.base.keep
    slot := I.base.slot
    free := fun b u e n y => by rw [upd_ne (fun z => by rw [z, h0] at e; cases e)]; exact I.base.free b u e n y
    there := I.base.there
    tups := fun b xs e => by have q := I.base.tups b xs e; rw [upd_ne (away q)]; exact q
    frzs := fun b u v e => by have q := I.base.frzs b u v e; rw [upd_ne (away q)]; exact q
    tbls := fun b ps e => by obtain ⟨m, q⟩ := I.base.tbls b ps e; exact ⟨m, by rw [upd_ne (away q)]; exact q⟩ }
  refine ⟨I.ok, I.os, I.bare, base, I.loc, I.cell, ?_, fun y z e => ?_, fun p hq => ?_, fun b u e => ?_, I.len⟩
  · rw [upd_ne (Ne.symm hl)]; exact I.free
  · rw [upd_ne (Ne.symm (hcl y z e))]; exact I.freeC y z e
  · obtain ⟨e, n, r⟩ := I.pin p hq
    exact ⟨e, by rw [upd_ne (hp p hq)]; exact n, r⟩
  · by_cases hb : b = x
    · subst hb
      rw [upd_same] at e
      cases e
      exact new
    · rw [upd_ne hb] at e
      exact (I.hok b u e).stay (fun _ v _ q => q) (fun z q => by rw [upd_ne (away q)]; exact q) fun z xs q => by rw [upd_ne (away q)]; exact q
end
/-- the wish of the clause: what is caught stands at a new place and is known; i: the name's slot -/
def wKn (K : PySem.W.Frag) (cv : Value) (i : Nat) (ts : TS) (Wout : WX) (D : Ends) : WX := fun cls d σ H =>
  ∃ b, PySem.W.exmOne K cls cv = some b ∧ (b = true → ∀ x, H x = none → ts { nx := fun σ' H' => D.nx (σ'.set i none) H', rt := D.rt, bk := fun σ' H' => D.bk (σ'.set i none) H', ct := fun σ' H' => D.ct (σ'.set i none) H' } (σ.set i (some (.ref x))) (upd H x (ExV cls d x))) ∧
    (b = false → Wout cls d σ H)
section
variable {x n : Str} {cv : Value} {i : Nat} {body suite : List Stmt} {b₀ : Stmt} {np pos' : Pos} {tb : WX → TS} {ts : TS} {Wout : WX}
theorem ps_try_kn (hex : X.ex = []) (hs : X.stack = X.env :: X.outer) (hf : X.env.frame = some X.env.locals) (hN : X.N.Nodup) (hi : X.N[i]? = some n) (hln : X.env.kindOf n = some .local) (hc : Names X x cv) (tk : Takes X Wout)
    (hb : ∀ (W : WX) (pl : List (Addr × Obj)) (xw : Value → Shared → Prop), Takes (X.tr pl xw) W → PassesOwn (model X.prog X.w) X.A X.env xw → PSs (X.tr pl xw) body (tb W))
    (hsu : ∀ (x : Addr) (pl : List (Addr × Obj)), PSs (X.suite x pl) (b₀ :: suite) ts) :
    PS X (.Try body [.ExceptHandler (some (.Name x np)) (some n) (b₀ :: suite) pos'] [] [] pos) (fun D σ H => tb (wKn X.K cv i ts Wout D) D σ H) := by
  refine ⟨fun pins s σ H D I wish => ?_⟩
  have good := I.ok
  have frames : X.A.frames = some (X.env :: X.outer) := by rw [good.frames, hs]
  have isLoc : Loc X.env.scope n := .inl hln
  refine wpAny_Try_except ?_
  refine wpAny_mono ((hb (wKn X.K cv i ts Wout D) (X.pn ++ pins) (fun ev u₁ => wpAny (model X.prog X.w) X.A (noteFrame ev X.env) (fun _ u₂ => wpAny (model X.prog X.w) X.A (setFlight ev none) (fun _ u₃ =>
    wpAny (model X.prog X.w) X.A (handleBy ev X.env [.ExceptHandler (some (.Name x np)) (some n) (b₀ :: suite) pos']) (SP X pins D) X.xe u₃) X.xe u₂) X.xe u₁) (fun ev u' air => ?_) PassesOwn.looking).run [] s σ H D (I.toTry _) wish) (fun fl u1 ended => ?_) (fun ev u1 z => z)
  · obtain ⟨z, Bg, sI, pins', σ', H', cls, d, rfl, J', grd, upS, air1, zn, osE, bareE, bb, hbb, yes, no⟩ := air
    have J : Inv X pins σ' H' sI := J'.ofTry good
    have air2 : Sky Bg (X.env :: X.outer) z (Zc cls d) X.env.locals u'.heap := by rw [← hs]; exact air1
    show wpAny (model X.prog X.w) X.A (noteFrame (.ref z) X.env) _ _ _
    refine Sky.land Zc.steady frames hf air2 fun k3 fly3 upB => ?_
    have J3 : Inv X pins σ' H' { u' with heap := k3 } := J.landed grd fly3.1 (upS.trans upB) osE bareE
    obtain ⟨ob3, fv3, at3, zc3, dt3⟩ := fly3.there
    have noFrame : ∀ {k : Heap} {ob : Obj} {fv : Array Value}, k.FunFrames Bg (X.env :: X.outer) → k.get? z = some ob → ob.data = .fields fv → z ∉ frs (X.env :: X.outer) := fun {k ob fv} ff e dd hm => by
      obtain ⟨_, ob', e', nf⟩ := ff.mem hm
      rw [e] at e'
      cases e'
      exact nf _ dd
    have zfr := noFrame fly3.2.2.1 at3 dt3
    have zL : z ≠ X.env.locals := fun q => zfr (List.mem_filterMap.mpr ⟨X.env, List.mem_cons_self, by rw [hf, q]⟩)
    have zF : z ∉ X.fs := fun hm => by
      obtain ⟨en, hen, q⟩ := List.mem_filterMap.mp hm
      exact zfr (List.mem_filterMap.mpr ⟨en, List.mem_cons_of_mem _ hen, q⟩)
    have zB : Bg.get? z = none := fly3.2.1
    have zStk : z ∉ frs X.stack := by rw [hs]; exact zfr
    have z0 : X.s_0.heap.get? z = none := by
      cases e0 : X.s_0.heap.get? z with
      | none => rfl
      | some ob =>
        exfalso
        obtain ⟨ob', e1⟩ := J.base.there z ob e0 (by rw [hex]; simp)
        have q := grd z ob' e1 zStk
        rw [zB] at q
        cases q
    have zPin : ∀ p ∈ X.pn ++ pins, p.1 ≠ z := fun p hp q => by
      obtain ⟨e, _, ne, nf, _⟩ := J.pin p hp
      have notStk : p.1 ∉ frs X.stack := fun hm => by
        rcases List.mem_cons.mp (J.stkSub p.1 hm) with y | y
        · exact ne y
        · exact nf y
      have y := grd p.1 p.2 e notStk
      rw [q, zB] at y
      cases y
    have S3 := J3.suite at3 dt3 zn zL zF
    refine wpAny_handleBy_cons (codeAny_handlers_test ?_) (by intro q; cases q)
    have looksT : PySem.W.Looks (model X.prog X.w) k3 (typeOf (.ref z)) cls := fun A Q E v k q => wpAny_typeOf_ref (k _ _ at3) (by rw [zc3.1]; exact q)
    have looksM := PySem.W.exm_one (M := model X.prog X.w) (J3.kIn) looksT hbb
    have asked : ∀ {Q : Value → Shared → Prop} {E : Value → Shared → Prop}, Q cv { u' with heap := k3 } → wpAny (model X.prog X.w) (X.A.mark (some (.ref z))) (eval (.Name x np) X.env) Q E { u' with heap := k3 } := fun {Q E} q => by
      obtain ⟨gl, db, own | ⟨free, boot, nn⟩⟩ := hc
      · exact ld_glob (X := X.suite z ((z, ob3) :: (X.pn ++ pins))) S3 gl own q db
      · exact ld_blt (X := X.suite z ((z, ob3) :: (X.pn ++ pins))) S3 gl free boot q nn db
    refine asked (looksM.here ?_)
    cases bb with
    | true =>
      refine codeAny_handlers_suite_as ?_
      refine HandSPX.lands_againZ fly3 fun k4 fly4 upC => ?_
      have J4 : Inv X pins σ' H' { u' with heap := k4 } := J.landed grd fly4.1 ((upS.trans upB).trans upC) osE bareE
      obtain ⟨ob4, fv4, at4, zc4, dt4⟩ := fly4.there
      have zC : ∀ y v, X.env.cells.lookup y = some v → z ≠ v := fun y v e q => by
        obtain ⟨w, ob5, e5, d5⟩ := J4.cell y v e
        rw [← q, at4] at e5
        cases e5
        rw [dt4] at d5
        cases d5
      have J5 : Inv X pins σ' (upd H' z (ExV cls d z)) { u' with heap := k4 } := inv_known J4 zn z0 zL zC zPin (exV_ok at4 zc4 dt4)
      have S5 : Inv (X.suite z (X.pn ++ pins)) [] σ' (upd H' z (ExV cls d z)) { u' with heap := k4 } :=
        ⟨J5.ok.suite _ _, J5.os, J5.bare, J5.base, J5.loc, J5.cell, J5.free, J5.freeC, fun p hp => J5.pin p (by rw [List.append_nil] at hp; exact hp), J5.hok, J5.len⟩
      refine store_ok (X := X.suite z (X.pn ++ pins)) (v := .ref z) S5 hN hi isLoc rfl (fun s6 S6 => ?_) (.inr hln)
      refine wpAny_mono ((hsu z (X.pn ++ pins)).run [] s6 _ _ _ S6 (yes rfl z zn)) (fun fl s7 ended => ?_) (fun _ _ q => False.elim q)
      have back : ∀ {σ6 : St} {H6 : Hp} {Q : Shared → Prop}, Inv (X.suite z (X.pn ++ pins)) [] σ6 H6 s7 → (∀ s8, Inv X pins (σ6.set i none) H6 s8 → Q s8) →
          wpAny (model X.prog X.w) X.A (do bindName X.env n .none; unbindBehindTheSuite X.env n pos') (fun _ s8 => Q s8) X.xe s7 := fun {σ6 H6 Q} S7 hq =>
        gone_ok (X := X) (pins := pins) ⟨good, S7.os, S7.bare, S7.base, S7.loc, S7.cell, S7.free, S7.freeC, fun p hp => S7.pin p (by rw [List.append_nil]; exact hp), S7.hok, S7.len⟩ hN hi hln hq
      cases fl with
      | next =>
        obtain ⟨σ6, H6, S7, q6⟩ := ended
        exact back S7 fun s8 J8 => ⟨_, _, J8, q6⟩
      | brk =>
        obtain ⟨σ6, H6, S7, q6⟩ := ended
        exact back S7 fun s8 J8 => ⟨_, _, J8, q6⟩
      | cont =>
        obtain ⟨σ6, H6, S7, q6⟩ := ended
        exact back S7 fun s8 J8 => ⟨_, _, J8, q6⟩
      | ret u =>
        obtain ⟨v6, σ6, H6, S7, r6, q6⟩ := ended
        exact back S7 fun s8 J8 => ⟨_, _, _, J8, r6, q6⟩
    | false =>
      show wpAny _ X.A (handleBy (.ref z) X.env []) _ _ _
      refine wpAny_handleBy_nil ?_
      obtain ⟨g1, g2, g3, ob, fv, T, oT, tv, at0, zc, dt, v1, tr⟩ := id fly3
      unfold PySem.passOn
      refine wpAny_bind (wpAny_field at0 dt v1 ?_)
      rw [if_neg (show ¬ ((Value.ref T == Value.none) = true) from by simp)]
      have flown : wpAny (model X.prog X.w) X.A (setFlight (.ref z) X.env.frame) (fun _ s4 => wpAny (model X.prog X.w) X.A (throw (.ref z) : Sem Flow) (SP X pins D) X.xe s4) X.xe { u' with heap := k3 } := by
        rw [hf]
        refine HandSPX.setFlight_upZ fly3 fun k4 held up4 => wpAny_throw (tk _ _ ?_)
        exact ⟨z, Bg, sI, pins, σ', H', cls, d, rfl, J, grd, (upS.trans upB).trans up4, .inr (.inr (by rw [hs]; exact held)), zn, osE, bareE, no rfl⟩
      first
        | exact wpAny_bind (wpAny_pure (wpAny_bind flown))
        | exact wpAny_bind flown
  · cases fl with
    | next =>
      obtain ⟨σ1, H1, J1, q⟩ := ended
      exact wpAny_execs_nil ⟨σ1, H1, J1.ofTry good, q⟩
    | brk =>
      obtain ⟨σ1, H1, J1, q⟩ := ended
      exact ⟨σ1, H1, J1.ofTry good, q⟩
    | cont =>
      obtain ⟨σ1, H1, J1, q⟩ := ended
      exact ⟨σ1, H1, J1.ofTry good, q⟩
    | ret u =>
      obtain ⟨v, σ1, H1, J1, r, q⟩ := ended
      exact ⟨v, σ1, H1, J1.ofTry good, r, q⟩
end
/-! try -/
/-- what the clause's class says of each class of the program: whether it is one of it -/
def ExmT (K : PySem.W.Frag) (cv : Value) (tab : List (Str × Bool)) : Prop := ∀ n b, tab.lookup n = some b → ∀ C, PySem.W.nsIn K mainGlobals n = some (some (.ref C)) → PySem.W.exmOne K (.ref C) cv = some b
theorem exmT_of {K : PySem.W.Frag} {x : Str} : ∀ {tab : List (Str × Bool)}, (tab.all fun p => (He.Fa.glo p.1).ok K && (He.Fa.exm p.1 x p.2).ok K) = true → ExmT K (.ref (He.ga K x)) tab
  | [], _ => fun n b e => by cases e
  | p :: tab, h => fun n b e C hC => by
    obtain ⟨h1, h2⟩ := Bool.and_eq_true_iff.mp h
    obtain ⟨h3, h4⟩ := Bool.and_eq_true_iff.mp h1
    by_cases hn : n = p.1
    · subst hn
      have e' : p.2 = b := by simpa [List.lookup] using e
      have g := He.eqO_ok h3
      rw [g] at hC
      cases hC
      rw [← e']
      exact He.exm_ok h4
    · refine exmT_of h2 n b ?_ C hC
      have hb : (n == p.1) = false := by simpa using hn
      obtain ⟨p1, p2⟩ := p
      simpa [List.lookup, hb] using e
def offS (i : Nat) : Out → Out
  | .nx r => .nx (r.set i .un)
  | .bk r => .bk (r.set i .un)
  | .ct r => .ct (r.set i .un)
  | .ret o => .ret o
  | _ => .bad
/-- try: F, except X as name i: G -/
def sTryAs (tab : List (Str × Bool)) (i : Nat) (F G : FS) : FS := fun r => match F r with
  | .exc e r' => (match tab.lookup e.c with
    | some true => if i < r'.length then offS i (G (r'.set i (.vl true (.fz (.ex e))))) else .bad
    | some false => .exc e r'
    | none => .bad)
  | o => o
/-- try: F, except X: G -/
def sTryO (tab : List (Str × Bool)) (F G : FS) : FS := fun r => match F r with
  | .exc e r' => (match tab.lookup e.c with
    | some true => (match G r' with
      | .exc _ _ => .bad
      | o => o)
    | some false => .exc e r'
    | none => .bad)
  | o => o
abbrev Cn.wi (c : Cn) (W : Wx) : Cn := ⟨c.Hf0, c.H0, W⟩
theorem SR.unset {r : Env} {s : St} {L : List Addr} {i : Nat} (sr : c.SR K r s Hf H L) (hi : i < r.length) : ∃ L', c.SR K (r.set i .un) (s.set i none) Hf H L' := by
  obtain ⟨L', h, _⟩ := sr.wipe [i] (fun v hv => by
    have e : v = i := by simpa using hv
    subst e; exact hi)
  exact ⟨L', h⟩
theorem Ext.known {x : Addr} {o : HO} (sub : Same Hf H) (hx : H x = none) : Ext Hf H (upd Hf x o) (upd H x o) :=
  ⟨fun a u e => by rw [upd_ne (ne_of_none e hx)]; exact e, fun a u e => by rw [upd_ne (ne_of_none e (sub_none sub hx))]; exact e, fun a u e => by
    by_cases ha : a = x
    · subst ha; rw [upd_same] at e ⊢; exact e
    · rw [upd_ne ha] at e ⊢; exact sub a u e, fun a h1 h2 => by
    by_cases ha : a = x
    · subst ha; exact absurd hx h1
    · rw [upd_ne ha] at h2; exact h2⟩
/-- the context of a suite at any place -/
theorem all_suite {sts : List Stmt} {c : Cn} (h : ∀ x pl, DSs c (X.suite x pl) sts G) : ∃ ts, (∀ x pl, PSs (X.suite x pl) sts ts) ∧ SoS c X.K ts G := by
  refine ⟨fun D σ H => ∀ x pl, (h x pl).ex.choose D σ H, fun x pl => ⟨fun pins s σ H D I q => (h x pl).ex.choose_spec.1.run pins s σ H D I (q x pl)⟩, fun r s Hf H L sr D q x pl => (h x pl).ex.choose_spec.2 r s Hf H L sr D q⟩
theorem all_body {sts : List Stmt} {c : Cn} {k : Nat} (h : ∀ W pl xe, Bk (c.wi W) (X.tr pl xe) k → DSs (c.wi W) (X.tr pl xe) sts F) :
    ∃ tb : Wx → TS, (∀ W pl xe, Bk (c.wi W) (X.tr pl xe) k → PSs (X.tr pl xe) sts (tb W)) ∧ ∀ W, SoS (c.wi W) X.K (tb W) F := by
  refine ⟨fun W D σ H => ∀ pl xe (B : Bk (c.wi W) (X.tr pl xe) k), (h W pl xe B).ex.choose D σ H, fun W pl xe B => ⟨fun pins s σ H D I q => (h W pl xe B).ex.choose_spec.1.run pins s σ H D I (q pl xe B)⟩, fun W r s Hf H L sr D q pl xe B => (h W pl xe B).ex.choose_spec.2 r s Hf H L sr D q⟩
section
variable {x n : Str} {cv : Value} {i k : Nat} {body suite : List Stmt} {b₀ : Stmt} {np pos' : Pos} {tab : List (Str × Bool)}
theorem ds_try_as (B : Bk c X k) (T : ExmT X.K cv tab) (hN : X.N.Nodup) (hi : X.N[i]? = some n) (hc : Names X x cv)
    (hb : ∀ W pl xe, Bk (c.wi W) (X.tr pl xe) k → DSs (c.wi W) (X.tr pl xe) body F) (hg : ∀ x pl, DSs c.blk (X.suite x pl) (b₀ :: suite) G)
    (hex : X.ex = [] := by rfl) (hs : X.stack = X.env :: X.outer := by rfl) (hf : X.env.frame = some X.env.locals := by rfl) (hln : X.env.kindOf n = some .local := by rfl) :
    DS c X (.Try body [.ExceptHandler (some (.Name x np)) (some n) (b₀ :: suite) pos'] [] [] pos) (sTryAs tab i F G) := by
  obtain ⟨tb, pb, sb⟩ := all_body hb
  obtain ⟨ts, pg, sg⟩ := all_suite hg
  refine ⟨_, ps_try_kn (tb := tb) (ts := ts) (Wout := c.W) hex hs hf hN hi hln hc B.tk (fun W pl xw tk po => pb W pl xw ⟨B.hr, tk, po, B.calm⟩) pg, fun r s Hf H L sr D q => ?_⟩
  refine sb (wKn X.K cv i ts c.W D) r s Hf H L sr D ?_
  unfold sTryAs at q
  cases eF : F r with
  | nx r' => rw [eF] at q; exact q
  | bk r' => rw [eF] at q; exact q
  | ct r' => rw [eF] at q; exact q
  | ret o => rw [eF] at q; exact q
  | bad => rw [eF] at q; exact q
  | exc e r' =>
    rw [eF] at q
    dsimp only at q
    intro s1 cls d Hf1 H1 L1 f1 sr1 ec
    obtain ⟨C, e1, e2, e3⟩ := ec
    subst e1
    cases et : tab.lookup e.c with
    | none => rw [et] at q; exact q.elim
    | some b =>
      rw [et] at q
      refine ⟨b, T _ _ et C e2, fun hbt z hz => ?_, fun hbf => ?_⟩
      · subst hbt
        dsimp only at q
        by_cases hl : i < r'.length
        · rw [if_pos hl] at q
          have xk := Ext.known (o := ExV (.ref C) d z) sr1.sub hz
          have sr2 := sr1.mono xk
          have hv : ResR X.K c.H0 (upd Hf1 z (ExV (.ref C) d z)) (upd H1 z (ExV (.ref C) d z)) (.nw (.fz (.ex e))) (.ref z) [] :=
            fz_new ⟨z, rfl, .ref C, d, upd_same, EcR.mono xk.fsame ⟨C, rfl, e2, e3⟩⟩
          obtain ⟨Hf3, L3, f3, sr3⟩ := sr2.store (own := true) (Ext.refl sr2.sub) (none_ne sr2.ext.same) sr2.ok hv nw_nil rfl hl
          refine sg _ _ _ _ _ ⟨sr3.ext, sr3.env, sr3.nd, sr3.fr, sr3.ok⟩ _ ?_
          have q1 : PostS c X.K Hf3 D (offS i (G (r'.set i (.vl true (.fz (.ex e)))))) := q.mono (f1.trans (xk.fsame.trans f3))
          show PostS c.blk X.K Hf3 _ (G (r'.set i (.vl true (.fz (.ex e)))))
          cases eG : G (r'.set i (.vl true (.fz (.ex e)))) with
          | nx r2 =>
            rw [eG] at q1
            refine fun s4 Hf4 H4 L4 f4 sr4 => ?_
            by_cases h4 : i < r2.length
            · obtain ⟨L5, sr5⟩ := SR.unset (c := c) ⟨sr4.ext, sr4.env, sr4.nd, sr4.fr, sr4.ok⟩ h4
              exact q1 _ _ _ _ f4 sr5
            · have e5 : r2.set i S.un = r2 := List.set_eq_of_length_le (by omega)
              have e6 : s4.set i none = s4 := List.set_eq_of_length_le (by rw [sr4.env.length]; omega)
              have q2 := q1 s4 Hf4 H4 L4 f4 (by rw [e5]; exact ⟨sr4.ext, sr4.env, sr4.nd, sr4.fr, sr4.ok⟩)
              show D.nx (s4.set i none) H4
              rw [e6]; exact q2
          | bk r2 =>
            rw [eG] at q1
            refine fun s4 Hf4 H4 L4 f4 sr4 => ?_
            by_cases h4 : i < r2.length
            · obtain ⟨L5, sr5⟩ := SR.unset (c := c) ⟨sr4.ext, sr4.env, sr4.nd, sr4.fr, sr4.ok⟩ h4
              exact q1 _ _ _ _ f4 sr5
            · have e5 : r2.set i S.un = r2 := List.set_eq_of_length_le (by omega)
              have e6 : s4.set i none = s4 := List.set_eq_of_length_le (by rw [sr4.env.length]; omega)
              have q2 := q1 s4 Hf4 H4 L4 f4 (by rw [e5]; exact ⟨sr4.ext, sr4.env, sr4.nd, sr4.fr, sr4.ok⟩)
              show D.bk (s4.set i none) H4
              rw [e6]; exact q2
          | ct r2 =>
            rw [eG] at q1
            refine fun s4 Hf4 H4 L4 f4 sr4 => ?_
            by_cases h4 : i < r2.length
            · obtain ⟨L5, sr5⟩ := SR.unset (c := c) ⟨sr4.ext, sr4.env, sr4.nd, sr4.fr, sr4.ok⟩ h4
              exact q1 _ _ _ _ f4 sr5
            · have e5 : r2.set i S.un = r2 := List.set_eq_of_length_le (by omega)
              have e6 : s4.set i none = s4 := List.set_eq_of_length_le (by rw [sr4.env.length]; omega)
              have q2 := q1 s4 Hf4 H4 L4 f4 (by rw [e5]; exact ⟨sr4.ext, sr4.env, sr4.nd, sr4.fr, sr4.ok⟩)
              show D.ct (s4.set i none) H4
              rw [e6]; exact q2
          | ret o => rw [eG] at q1; exact q1
          | exc e' r2 => rw [eG] at q1; exact q1.elim
          | bad => rw [eG] at q1; exact q1.elim
        · rw [if_neg hl] at q; exact q.elim
      · subst hbf
        exact q s1 (.ref C) d Hf1 H1 L1 f1 sr1 ⟨C, rfl, e2, e3⟩
theorem ds_try_only (B : Bk c X k) (T : ExmT X.K cv tab) (hc : Names X x cv)
    (hb : ∀ W pl xe, Bk (c.wi W) (X.tr pl xe) k → DSs (c.wi W) (X.tr pl xe) body F) (hg : ∀ x pl, DSs c.blk (X.suite x pl) (b₀ :: suite) G)
    (hs : X.stack = X.env :: X.outer := by rfl) (hf : X.env.frame = some X.env.locals := by rfl) :
    DS c X (.Try body [.ExceptHandler (some (.Name x np)) none (b₀ :: suite) pos'] [] [] pos) (sTryO tab F G) := by
  obtain ⟨tb, pb, sb⟩ := all_body hb
  obtain ⟨ts, pg, sg⟩ := all_suite hg
  refine ⟨_, ps_try_only (tb := tb) (ts := fun _ _ _ => ts) (Wout := c.W) hs hf hc B.tk (fun W pl xw tk po => pb W pl xw ⟨B.hr, tk, po, B.calm⟩) (fun a oe _ _ pl _ _ => pg a ((a, oe) :: pl)), fun r s Hf H L sr D q => ?_⟩
  refine sb (wOnly X.K cv (fun _ _ _ => ts) c.W D) r s Hf H L sr D ?_
  unfold sTryO at q
  cases eF : F r with
  | nx r' => rw [eF] at q; exact q
  | bk r' => rw [eF] at q; exact q
  | ct r' => rw [eF] at q; exact q
  | ret o => rw [eF] at q; exact q
  | bad => rw [eF] at q; exact q
  | exc e r' =>
    rw [eF] at q
    dsimp only at q
    intro s1 cls d Hf1 H1 L1 f1 sr1 ec
    obtain ⟨C, e1, e2, e3⟩ := ec
    subst e1
    cases et : tab.lookup e.c with
    | none => rw [et] at q; exact q.elim
    | some b =>
      rw [et] at q
      refine ⟨b, T _ _ et C e2, fun hbt z hz => ?_, fun hbf => ?_⟩
      · subst hbt
        dsimp only at q
        refine sg _ _ _ _ _ ⟨sr1.ext, sr1.env, sr1.nd, sr1.fr, sr1.ok⟩ _ ?_
        have q1 := PostS.mono f1 q
        cases eG : G r' with
        | nx r2 => rw [eG] at q1; exact fun s4 Hf4 H4 L4 f4 sr4 => q1 s4 Hf4 H4 L4 f4 ⟨sr4.ext, sr4.env, sr4.nd, sr4.fr, sr4.ok⟩
        | bk r2 => rw [eG] at q1; exact fun s4 Hf4 H4 L4 f4 sr4 => q1 s4 Hf4 H4 L4 f4 ⟨sr4.ext, sr4.env, sr4.nd, sr4.fr, sr4.ok⟩
        | ct r2 => rw [eG] at q1; exact fun s4 Hf4 H4 L4 f4 sr4 => q1 s4 Hf4 H4 L4 f4 ⟨sr4.ext, sr4.env, sr4.nd, sr4.fr, sr4.ok⟩
        | ret o => rw [eG] at q1; exact q1
        | exc e' r2 => rw [eG] at q1; exact q1.elim
        | bad => rw [eG] at q1; exact q1.elim
      · subst hbf
        exact q s1 (.ref C) d Hf1 H1 L1 f1 sr1 ⟨C, rfl, e2, e3⟩
end
end DL

namespace DL
open PySem L2
variable {c : Cn} {X : Cx} {a b e : Expr} {es : List Expr} {f g fa fb : FE} {pos : Pos} {fs : Env → Res (List O)} {K : PySem.W.Frag} {H0 H H' Hf Hf' : Hp} {F G : FS} {st : Stmt} {sts : List Stmt} {ft : Env → Res Bool}
/-! isinstance(x, C), x None or a caught exception, C an own exception class or ValueError -/
def rIsV (K : PySem.W.Frag) : List V → Hp → VK → Prop := fun xs H Q => ∃ (z D : Addr) (cv : V) (u : Value) (b : Bool), xs = [.ref z, cv] ∧ ClsV cv u ∧ H z = some (ExV (.ref D) none z) ∧ ExcC K D ∧ PySem.W.kitOne K (.ref D) u = some b ∧ Q (.bl b) H
theorem call_isV : CallR X (.builtin "isinstance") (rIsV X.K) := by
  intro pins s σ H xs us Q I r h
  obtain ⟨z, D, cv, u, b, rfl, kc, hz, C, e, q⟩ := h
  cases r with
  | cons rx rr =>
    cases rr with
    | cons rt rr =>
      cases rr
      cases rx
      have ec := kc.eq rt
      subst ec
      obtain ⟨⟨oe, vs, hget, hzc, hv⟩, _, _⟩ := I.hok z _ hz
      have J : PySem.W.InstAt s.heap z oe D none := by
        obtain ⟨oc, od, oda, osl⟩ := oe
        obtain ⟨h1, h2⟩ := hzc
        dsimp only at h1 h2 hv
        subst h1 h2 hv
        exact ⟨hget, rfl, rfl, trivial⟩
      exact PySem.W.kia_one (PySem.W.handS_kitx_exc C.hg C.hk C.hs C.hd C.ha C.hn C.ht C.hm) I.kIn J e (fun z => nomatch z) fun tk => ⟨.bl b, H, I.kept (t' := tk) fun _ _ z => z, rfl, q⟩
def rIsU (K : PySem.W.Frag) : List V → Hp → VK → Prop := fun xs H Q => rIsi K xs H Q ∨ rIsV K xs H Q
theorem call_isU : CallR X (.builtin "isinstance") (rIsU X.K) := fun pins s σ H xs us Q I r h => by
  rcases h with h | h
  · exact call_isi pins s σ H xs us Q I r h
  · exact call_isV pins s σ H xs us Q I r h
/-- what a class says of None and of the program's exception classes -/
structure IsT (K : PySem.W.Frag) (u : Value) (tab : List (Str × Bool)) : Prop where
  non : PySem.W.kitOne K (.type "NoneType") u = some false
  exc : ∀ n b, tab.lookup n = some b → ∀ D, PySem.W.nsIn K mainGlobals n = some (some (.ref D)) → ExcC K D ∧ PySem.W.kitOne K (.ref D) u = some b
def eIsX (tab : List (Str × Bool)) (f : FE) : FE := fun r => (f r).bind fun x => match x.a with
  | .fz .non => fzR (.bl false)
  | .fz (.ex e) => if e.fs.isEmpty then (match tab.lookup e.c with | some b => fzR (.bl b) | none => .bad) else .bad
  | _ => .bad
theorem de_isX {p : Pos} {cv : V} {u : Value} {tab : List (Str × Bool)} (T : IsT X.K u tab) (kc : ClsV cv u) (hg : Gl X "isinstance") (hm : X.mg "isinstance" = none) (hT : PE X e (tC cv)) (h : DE c X a f)
    (he : starEach [a, e] X.env = (false, eval a X.env) :: starEach [e] X.env := by rfl) (hpl : (backTo pos (starEach [e] X.env)).any (·.1) = false := by rfl) (hs : starEach [e] X.env = (false, eval e X.env) :: starEach [] X.env := by rfl) :
    DE c X (.Call (.Name "isinstance" p) [a, e] [] pos) (eIsX tab f) := by
  obtain ⟨t, pa, s⟩ := h.ex
  refine ⟨tCB (rIsU X.K) (tCons t (tCons (tC cv) tNil)), pe_callB call_isU hg hm (by decide +kernel) (pa_cons pa (pa_cons hT pa_nil hs) he) (by decide) (by decide) he hpl, fun r s' Hf H L sr Q q => ?_⟩
  refine s.run sr pstE q fun x v Hf1 H1 x1 sr1 a1 q1 => ?_
  have a2 := a1.a sr1.same0
  cases ex : x.a with
  | ls _ => rw [ex] at q1; exact q1.elim
  | tp _ => rw [ex] at q1; exact q1.elim
  | fz d =>
    rw [ex] at q1 a2
    cases d with
    | non =>
      have hv : v = .non := a2
      subst hv
      exact .inl ⟨.non, cv, .type "NoneType", u, false, rfl, kc, .base .non, T.non, postE_fz sr1.sub q1 rfl⟩
    | ex e' =>
      dsimp only at q1
      by_cases hf : e'.fs.isEmpty = true
      · rw [if_pos hf] at q1
        cases et : tab.lookup e'.c with
        | none => rw [et] at q1; exact q1.elim
        | some b =>
          rw [et] at q1
          obtain ⟨z, hz, cls, d, h1, D, h2, h3, h4⟩ := a2
          subst hz h2
          have hd : d = none := by
            cases d with
            | none => rfl
            | some _ => exact absurd (List.isEmpty_iff.mp hf) h4.1
          subst hd
          obtain ⟨k1, k2⟩ := T.exc _ _ et D h3
          exact .inr ⟨z, D, cv, u, b, rfl, kc, sr1.sub _ _ h1, k1, k2, postE_fz sr1.sub q1 rfl⟩
      · rw [if_neg hf] at q1; exact q1.elim
    | bl _ => exact q1.elim
    | int _ => exact q1.elim
    | str _ => exact q1.elim
    | scr _ => exact q1.elim
    | lst _ => exact q1.elim
    | tup _ => exact q1.elim
/-! what the top's run is asked, more -/
/-- the class named x is as isinstance wants it -/
def excCB (K : PySem.W.Frag) (D : Addr) : Bool := He.eqO (PySem.W.findIn K (.ref D) "__getattribute__") (some (some (.builtin "BaseException.__getattribute__"))) && (He.eqO (PySem.W.findIn K (.ref D) "__getattr__") (some none) && (decide (PySem.W.subIn K (.ref D) (.type "BaseException") = some true) &&
  (PySem.W.hasDictIn K D && (He.eqO (PySem.W.findIn K (.ref D) "__class__") (some (some (.builtin "object.__class__"))) && (He.eqO (PySem.W.specialIn K (.builtin "object.__class__") "__get__") (some (some (.builtin "getset_descriptor.__get__"))) &&
  (decide (PySem.W.takesIn K (.builtin "object.__class__") = some true) && decide (PySem.W.mroIn K D (.type "object") = some true)))))))
theorem excCB_ok {D : Addr} (h : excCB K D = true) : ExcC K D := by
  obtain ⟨h1, h⟩ := Bool.and_eq_true_iff.mp h
  obtain ⟨h2, h⟩ := Bool.and_eq_true_iff.mp h
  obtain ⟨h3, h⟩ := Bool.and_eq_true_iff.mp h
  obtain ⟨h4, h⟩ := Bool.and_eq_true_iff.mp h
  obtain ⟨h5, h⟩ := Bool.and_eq_true_iff.mp h
  obtain ⟨h6, h⟩ := Bool.and_eq_true_iff.mp h
  obtain ⟨h7, h8⟩ := Bool.and_eq_true_iff.mp h
  exact ⟨He.eqO_ok h1, He.eqO_ok h2, of_decide_eq_true h3, h4, He.eqO_ok h5, He.eqO_ok h6, of_decide_eq_true h7, of_decide_eq_true h8⟩
/-- a class that is asked for: an own one by its name, or ValueError -/
inductive Ask where | own (x : Str) | ve
def Ask.v (K : PySem.W.Frag) : Ask → Value
  | .own x => .ref (He.ga K x)
  | .ve => .type "ValueError"
def askB (K : PySem.W.Frag) (q : Ask) (tab : List (Str × Bool)) : Bool := decide (PySem.W.kitOne K (.type "NoneType") (q.v K) = some false) && tab.all fun p => (He.Fa.glo p.1).ok K && decide (PySem.W.kitOne K (.ref (He.ga K p.1)) (q.v K) = some p.2)
theorem lookup_all {α : Type} {P : Str → α → Prop} : ∀ {tab : List (Str × α)}, (∀ p ∈ tab, P p.1 p.2) → ∀ n b, tab.lookup n = some b → P n b
  | [], _, n, b, e => by cases e
  | p :: tab, h, n, b, e => by
    obtain ⟨p1, p2⟩ := p
    by_cases hn : n = p1
    · subst hn
      have e' : p2 = b := by simpa [List.lookup] using e
      subst e'
      exact h _ List.mem_cons_self
    · have hb : (n == p1) = false := by simpa using hn
      exact lookup_all (fun p hp => h p (List.mem_cons_of_mem _ hp)) n b (by simpa [List.lookup, hb] using e)
theorem isT_of {q : Ask} {tab : List (Str × Bool)} (h : askB K q tab = true) (hx : ∀ p ∈ tab, excCB K (He.ga K p.1) = true) : IsT K (q.v K) tab := by
  obtain ⟨h1, h2⟩ := Bool.and_eq_true_iff.mp h
  refine ⟨of_decide_eq_true h1, fun n b e D hD => ?_⟩
  refine lookup_all (P := fun n b => ∀ D, PySem.W.nsIn K mainGlobals n = some (some (.ref D)) → ExcC K D ∧ PySem.W.kitOne K (.ref D) (q.v K) = some b) (fun p hp D hD => ?_) n b e D hD
  obtain ⟨h3, h4⟩ := Bool.and_eq_true_iff.mp (List.all_eq_true.mp h2 p hp)
  have g := He.eqO_ok h3
  rw [g] at hD
  cases hD
  exact ⟨excCB_ok (hx p hp), of_decide_eq_true h4⟩
/-- the hook: He's facts and one Bool more -/
abbrev AlY : Type := He.AlD × Bool
def obsY (n : Nat) (fa : List He.Fa) (fn : List He.DefD) (ex : PySem.W.Frag → Bool) (g : Addr → Option Obj) : AlY := (He.obsDG n fa fn g, ex (He.frG g (He.asD g n)))
def hookY (n : Nat) (fa : List He.Fa) (fn : List He.DefD) (ex : PySem.W.Frag → Bool) : PySem.W.Hook where
  α := AlY
  obs := fun s => obsY n fa fn ex s.heap.get?
  val := fun _ => (He.valD fn, true)
  says := fun _ h => ∃ K : PySem.W.Frag, K.In h ∧ He.SaysD fa fn K ∧ ex K = true
  of := fun _ _ e => ⟨_, He.frG_in, congrArg (fun z : AlY => z.1) e, congrArg (fun z : AlY => z.2) e⟩
  keeps := fun _ _ _ ⟨K, hK, d⟩ k => ⟨K, PySem.W.Frag.In.keeps hK k, d⟩
theorem obsY_eq {n : Nat} {fa : List He.Fa} {fn : List He.DefD} {ex : PySem.W.Frag → Bool} {g : Addr → Option Obj} {s : Shared} (h : ∀ a, g a = s.heap.get? a) : obsY n fa fn ex g = (hookY n fa fn ex).obs s := by
  have e : g = s.heap.get? := funext h
  rw [e] <;> rfl
end DL

namespace DL
open PySem PySem.Spec PyProof.Rows L2
variable {c : Cn} {X : Cx} {a b e : Expr} {es : List Expr} {f g fa fb : FE} {pos : Pos} {fs : Env → Res (List O)} {K : PySem.W.Frag} {H0 H H' Hf Hf' : Hp} {F G : FS} {st : Stmt} {sts : List Stmt} {ft : Env → Res Bool}
/-! slices of lists with a step -/
def stepL {α : Type} (xs : List α) (lo hi st : Option Int) : List α := (sliceRange (sliceBounds lo hi st xs.length).1 (sliceBounds lo hi st xs.length).2.1 (sliceBounds lo hi st xs.length).2.2).filterMap (xs[·]?)
theorem RepVs.none_of {os : List O} {vs : List V} {i : Nat} (h : RepVs K Hf H os vs) (e : os[i]? = none) : vs[i]? = none := by
  rw [List.getElem?_eq_none_iff] at e ⊢
  rw [RepVs.length h]; exact e
theorem RepVs.pick {os : List O} {vs : List V} (h : RepVs K Hf H os vs) : ∀ ix : List Nat, RepVs K Hf H (ix.filterMap (os[·]?)) (ix.filterMap (vs[·]?))
  | [] => rfl
  | i :: ix => by
    cases e : os[i]? with
    | none =>
      rw [List.filterMap_cons_none e, List.filterMap_cons_none (h.none_of e)]
      exact RepVs.pick h ix
    | some o =>
      obtain ⟨v, h1, h2⟩ := RepVs.get h e
      rw [List.filterMap_cons_some e, List.filterMap_cons_some h1]
      exact ⟨v, _, rfl, h2, RepVs.pick h ix⟩
theorem RepVs.step {os : List O} {vs : List V} (h : RepVs K Hf H os vs) (lo hi st : Option Int) : RepVs K Hf H (stepL os lo hi st) (stepL vs lo hi st) := by
  unfold stepL
  rw [RepVs.length h]
  exact h.pick _
theorem vals_at : ∀ {vs : List V} {us : List Value} (i : Nat), Vals vs us → (vs[i]? = none ∧ us[i]? = none) ∨ ∃ v u, vs[i]? = some v ∧ us[i]? = some u ∧ RelV v u
  | _, _, i, .nil => .inl ⟨by simp, by simp⟩
  | _, _, 0, .cons r _ => .inr ⟨_, _, rfl, rfl, r⟩
  | _, _, i + 1, .cons _ t => by
    rcases vals_at i t with ⟨h1, h2⟩ | ⟨v, u, h1, h2, h3⟩
    · exact .inl ⟨by simpa using h1, by simpa using h2⟩
    · exact .inr ⟨v, u, by simpa using h1, by simpa using h2, h3⟩
theorem vals_pick {vs : List V} {us : List Value} (h : Vals vs us) : ∀ ix : List Nat, Vals (ix.filterMap (vs[·]?)) (ix.filterMap (us[·]?))
  | [] => .nil
  | i :: ix => by
    rcases vals_at i h with ⟨h1, h2⟩ | ⟨v, u, h1, h2, h3⟩
    · rw [List.filterMap_cons_none h1, List.filterMap_cons_none h2]
      exact vals_pick h ix
    · rw [List.filterMap_cons_some h1, List.filterMap_cons_some h2]
      exact .cons h3 (vals_pick h ix)
/-- a[lo:hi:st] of a list -/
def tSlS (K : PySem.W.Frag) (te : TE) (tl th tk : TO) : TE := fun σ H Q => te σ H fun x H1 => tl σ H1 fun l H2 => th σ H2 fun u H3 => tk σ H3 fun k H4 =>
  ∃ z xs, x = .ref z ∧ SqL K H4 z xs ∧ k ≠ some 0 ∧ (stepL xs l u k).length ≤ sizeLine ∧ ∀ p, H4 p = none → Q (.ref p) (upd H4 p (.lst (stepL xs l u k)))
theorem pe_sliceS {lo hi : Option Expr} {so : Expr} {p2 : Pos} {te : TE} {tl th tk : TO} (he : PE X e te) (hl : PO X lo tl) (hu : PO X hi th) (hk : PO X (some so) tk) : PE X (.Subscript e (.Slice lo hi (some so) p2) pos) (tSlS X.K te tl th tk) := by
  refine ⟨fun pins s σ H Q I h => ?_⟩
  refine Subscript_ (thn (he.run pins s σ H _ I h) fun v s1 ⟨x, H1, I1, r1, q1⟩ => ?_)
  refine wpAny_Slice (thn (hl.run pins s1 σ H1 _ I1 q1) fun vl s2 ⟨l, H2, I2, pl, q2⟩ => thn (hu.run pins s2 σ H2 _ I2 q2) fun vu s3 ⟨u, H3, I3, pu, q3⟩ => thn (hk.run pins s3 σ H3 _ I3 q3) fun vk s4 ⟨k, H4, I4, pk, q4⟩ => ?_)
  obtain ⟨z, xs, e1, hz, k0, hsz, q⟩ := q4
  subst e1
  have I5 : Inv X pins σ H4 { s4 with heap := s4.heap.push { cls := .type "slice", data := .fields #[vl, vu, vk] } } := I4.kept (t' := s4.toks) fun b ob y => Heap.get?_push_of_some _ y
  have hs : (s4.heap.push { cls := .type "slice", data := .fields #[vl, vu, vk] }).IsSliceOf s4.heap.objs.size vl vu vk := Heap.IsSliceOf.new ..
  cases r1
  obtain ⟨its, r, ht, hn⟩ := I5.list hz
  have hlen := r.length
  show wpAny (model X.prog X.w) X.A (subscriptTail e (.Slice lo hi (some so) p2) (.ref z) (.ref s4.heap.objs.size)) (EP X pins σ Q) X.xe { s4 with heap := s4.heap.push { cls := .type "slice", data := .fields #[vl, vu, vk] } }
  refine tail_any (ops := [.ref z, .ref s4.heap.objs.size]) ht.isList.typeIs slot_list_getitem.lookup ?_ (by with_unfolding_all rfl)
  refine wpAny_getItem_list_slice ht.isList hs pl pu pk k0 ?_ (by rw [List.size_toArray] <;> omega)
  have epick : slicePick its.toArray l u k = ((sliceRange (sliceBounds l u k its.length).1 (sliceBounds l u k its.length).2.1 (sliceBounds l u k its.length).2.2).filterMap (its[·]?)).toArray := by
    unfold slicePick
    simp
  rw [epick]
  have rv := vals_pick r (sliceRange (sliceBounds l u k xs.length).1 (sliceBounds l u k xs.length).2.1 (sliceBounds l u k xs.length).2.2)
  rw [← hlen]
  have hf := I5.hok.fresh (Nat.le_refl _)
  refine ⟨.ref _, _, I5.laid (t' := s4.toks) (o := .lst (stepL xs l u k)) (fun b ob y => Heap.get?_push_of_some _ y) (Nat.le_refl _) ?_, rfl, q _ hf⟩
  exact ⟨hsz, _, 0, rv, Heap.get?_push_size _ rfl⟩
def eSlS (f : FE) (l h k : FP) : FE := fun r => (f r).bind fun x => (l r).bind fun lo => (h r).bind fun hi => (k r).bind fun st => match items x.a with
  | some os => if st = some 0 then .bad else lsR (stepL os lo hi st)
  | none => .bad
theorem de_slS {lo hi : Option Expr} {so : Expr} {fl fh fk : FP} {p2 : Pos} (h : DE c X a f) (hl : DP c X lo fl) (hh : DP c X hi fh) (hk : DP c X (some so) fk) : DE c X (.Subscript a (.Slice lo hi (some so) p2) pos) (eSlS f fl fh fk) := by
  obtain ⟨t, p, s⟩ := h.ex
  obtain ⟨tl, pl, sl⟩ := hl.ex
  obtain ⟨th, ph, sh⟩ := hh.ex
  obtain ⟨tk, pk, sk⟩ := hk.ex
  refine ⟨_, pe_sliceS p pl ph pk, fun r s' Hf H L sr Q q => ?_⟩
  refine s.run sr pstE q fun x v Hf1 H1 x1 sr1 a1 q1 => ?_
  refine sl.run sr1 pstE q1 fun l Hf2 H2 x2 sr2 q2 => ?_
  refine sh.run sr2 pstE q2 fun u Hf3 H3 x3 sr3 q3 => ?_
  refine sk.run sr3 pstE q3 fun k Hf4 H4 x4 sr4 q4 => ?_
  have xx := (x2.trans x3).trans x4
  have a3 := (a1.mono xx.fsame xx.same).a sr4.same0
  cases ei : items x.a with
  | none => simp only [ei] at q4; exact q4.elim
  | some os =>
    simp only [ei] at q4
    by_cases h0 : k = some 0
    · rw [if_pos h0] at q4; exact q4.elim
    · rw [if_neg h0] at q4
      have l2 := lsR_len q4
      obtain ⟨p', vs, e1, h1, h2⟩ := items_rep sr4.sub a3 ei
      have h3 := h2.step l u k
      exact ⟨p', vs, e1, h1, h0, by rw [RepVs.length h3]; exact Nat.le_trans l2 (by decide), fun l hl => lsR_ok sr4.sub q4 h3 hl⟩
/-! a < b < c -/
def eChain (g1 g2 : O → O → Res R) (fa fb fc : FE) : FE := fun r => (fa r).bind fun x => (fb r).bind fun y => (g1 x.a y.a).bind fun z => onB z.a fun k => if k then (fc r).bind fun w => g2 y.a w.a else fzR (.bl false)
theorem so_chain {r1 r2 : R2} {g1 g2 : O → O → Res R} {ta tb tc : TE} {fc : FE} (h1 : PureR K r1 g1) (h2 : PureR K r2 g2) (ha : SoE c K ta fa) (hb : SoE c K tb fb) (hc : SoE c K tc fc) (hn : ∀ x y e, g1 x y ≠ .exc e) : SoE c K (tChain r1 r2 ta tb tc) (eChain g1 g2 fa fb fc) := fun r s Hf H L sr Q q => by
  refine ha.run sr pstE q fun x v Hf1 H1 x1 sr1 a1 q1 => ?_
  refine hb.run sr1 pstE q1 fun y w Hf2 H2 x2 sr2 a2 q2 => ?_
  have b1 := (a1.mono x2.fsame x2.same).a sr2.same0
  have b2 := a2.a sr2.same0
  refine h1 c s Hf2 H2 v w _ _ _ sr2.sub b1 b2 ?_
  cases e1 : g1 x.a y.a with
  | bad => rw [e1] at q2; exact q2.elim
  | exc e => exact absurd e1 (hn _ _ _)
  | ok z =>
    rw [e1] at q2
    intro u Hf3 H3 L3 x3 a3 n3
    have x4 := x3.add n3
    have sr4 := sr2.mono x4
    have q3 := (pstE (c := c) (K := K) (s := s) (Q := Q)).mono _ _ _ _ _ x4 q2
    obtain ⟨k, ek, q5⟩ := bl_of (a3.argR n3 |>.a sr4.same0) q3
    refine ⟨k, ek, ?_⟩
    cases k with
    | false => exact postE_fz sr4.sub q5 rfl
    | true =>
      refine hc.run sr4 pstE q5 fun w' u' Hf5 H5 x5 sr5 a5 q6 => ?_
      have y5 := (a2.mono (x4.trans x5).fsame (x4.trans x5).same).a sr5.same0
      exact h2 c s Hf5 H5 w u' _ _ Q sr5.sub y5 (a5.a sr5.same0) q6
theorem de_chain {op op' : CmpOp} {r1 r2 : R2} {g1 g2 : O → O → Res R} {ec : Expr} {fc : FE} (o1 : OpR X (compareOp op) r1) (o2 : OpR X (compareOp op') r2) (h1 : PureR X.K r1 g1) (h2 : PureR X.K r2 g2) (hn : ∀ x y e, g1 x y ≠ .exc e) (ha : DE c X a fa) (hb : DE c X b fb) (hc : DE c X ec fc)
    (hm : lastMarks [op, op'] [b, ec] = false := by with_unfolding_all rfl) : DE c X (.Compare a [op, op'] [b, ec] pos) (eChain g1 g2 fa fb fc) := by
  obtain ⟨ta, pa, sa⟩ := ha.ex
  obtain ⟨tb, pb, sb⟩ := hb.ex
  obtain ⟨tc, pc, sc⟩ := hc.ex
  exact ⟨_, pe_chain o1 o2 pa pb pc hm, so_chain h1 h2 sa sb sc hn⟩
theorem dt_chain {op op' : CmpOp} {r1 r2 : R2} {g1 g2 : O → O → Res R} {ec : Expr} {fc : FE} (o1 : OpR X (compareOp op) r1) (o2 : OpR X (compareOp op') r2) (h1 : PureR X.K r1 g1) (h2 : PureR X.K r2 g2) (hn : ∀ x y e, g1 x y ≠ .exc e) (ha : DE c X a fa) (hb : DE c X b fb) (hc : DE c X ec fc)
    (hm : lastMarks [op, op'] [b, ec] = false := by with_unfolding_all rfl) : DT c X (.Compare a [op, op'] [b, ec] pos) (tOf (eChain g1 g2 fa fb fc)) := by
  obtain ⟨ta, pa, sa⟩ := ha.ex
  obtain ⟨tb, pb, sb⟩ := hb.ex
  obtain ⟨tc, pc, sc⟩ := hc.ex
  exact ⟨_, pt_chain o1 o2 pa pb pc hm, so_test (so_chain h1 h2 sa sb sc hn)⟩
theorem gInt_noexc {C : Int → Int → Bool} {h : Int → Int → DL.D} : ∀ x y e, gInt C h x y ≠ .exc e := fun x y e z => by
  unfold gInt at z
  split at z
  · split at z <;> cases z
  · cases z
/-! a walk over a list of one's own, each item asked, perhaps a return: nothing is written but the walk's name -/
def sForV (i j : Nat) (ft : Env → Res Bool) (fe : FE) : FS := fun r => match r[i]? with
  | some (.vl true (.ls os)) => if i ≠ j ∧ allFz os = true then forL (gN j) (sIf ft (sRet fe) sNil) (os.map (see true)) r else .bad
  | _ => .bad
theorem allFz_get : ∀ {os : List O} {i : Nat} {o : O}, allFz os = true → os[i]? = some o → ∃ d, o = .fz d
  | [], _, _, _, e => by simp at e
  | .fz d :: os, 0, o, _, e => ⟨d, by simpa using e.symm⟩
  | .fz d :: os, i + 1, o, h, e => allFz_get (os := os) (i := i) h (by simpa using e)
  | .ls _ :: os, _, _, h, _ => by cases h
  | .tp _ :: os, _, _, h, _ => by cases h
theorem so_forV {i j : Nat} {tt : TT} {te : TE} {fe : FE} (ht : SoT c K tt ft) (he : SoE c K te fe) : SoS c K (tFor (iList K (tVar i)) (gName j) (tIfS tt (tRet te) tNext)) (sForV i j ft fe) := fun r0 s0 Hf0 H0' L0 sr0 D q => by
  unfold sForV at q
  split at q
  · rename_i os e0
    by_cases hc : i ≠ j ∧ allFz os = true
    · rw [if_pos hc] at q
      obtain ⟨hij, hall⟩ := hc
      obtain ⟨p, vs, h1, h2, h3, _, _, _, _⟩ := sr0.write e0
      refine ⟨.ref p, h1, p, rfl, ⟨vs, SqL.of h2⟩, ?_⟩
      refine ⟨fun k m s H => m = os.length - k ∧ k ≤ os.length ∧ ∃ r Hf L, c.SR K r s Hf H L ∧ Same Hf0 Hf ∧ H p = some (.lst vs) ∧ RepVs K Hf H os vs ∧ PostS c K Hf D (forL (gN j) (sIf ft (sRet fe) sNil) ((os.map (see true)).drop k) r),
        ⟨os.length, by simp, Nat.zero_le _, r0, Hf0, L0, sr0, Same.refl _, h2, h3, by simpa using q⟩, ?_⟩
      rintro k m s H ⟨rfl, hle, r, Hf, L, sr, f0, hp, hv, q⟩
      have lv : vs.length = os.length := RepVs.length hv
      by_cases hlt : k < os.length
      · obtain ⟨d, hd⟩ := allFz_get hall (show os[k]? = some os[k] by simp [hlt])
        obtain ⟨v, hvk, rv⟩ := RepVs.get hv (show os[k]? = some os[k] by simp [hlt])
        rw [hd] at rv
        have hlt' : k < (os.map (see true)).length := by simpa using hlt
        rw [List.drop_eq_getElem_cons hlt', List.getElem_map, hd] at q
        refine .inr ⟨⟨vs, v, SqL.of hp, hvk⟩, fun s' H' => ∃ r Hf L, c.SR K r s' Hf H' L ∧ Same Hf0 Hf ∧ H' p = some (.lst vs) ∧ RepVs K Hf H' os vs ∧ PostS c K Hf D (forL (gN j) (sIf ft (sRet fe) sNil) ((os.map (see true)).drop (k + 1)) r),
          fun s' H' h => ⟨os.length - (k + 1), by omega, rfl, hlt, h⟩, fun x H3 ⟨eH, hx⟩ => ?_⟩
        subst eH
        have ex := hx vs (SqL.of hp)
        rw [hvk] at ex
        cases ex
        unfold forL at q
        cases eg : gN j (see true (.fz d)) r with
        | none => rw [eg] at q; exact q.elim
        | some r1 =>
          rw [eg] at q
          dsimp only at q
          obtain ⟨L1, sr1⟩ := sr.storeA (x := .nw (.fz d)) rv eg
          show tIfS tt (tRet te) tNext _ (s.set j (some v)) H3
          refine ht r1 _ Hf H3 L1 sr1 _ ?_
          cases et : ft r1 with
          | bad => simp only [sIf, et] at q; exact q.elim
          | exc e' =>
            simp only [sIf, et] at q
            exact fun cls d' Hf1 H1 x1 h1 => q _ cls d' Hf1 H1 L1 x1.fsame (sr1.mono x1) h1
          | ok b =>
            intro Hf1 H1 x1
            have sr2 := sr1.mono x1
            cases b with
            | false =>
              simp only [sIf, et, Bool.false_eq_true, if_false, sNil] at q
              exact ⟨r1, Hf1, L1, sr2, f0.trans x1.fsame, x1.same _ _ hp, RepVs.mono x1.fsame x1.same os vs hv, q.mono x1.fsame⟩
            | true =>
              simp only [sIf, et, if_true] at q
              have q2 : PostS c K Hf1 D (sRet fe r1) := by
                have q3 := q.mono x1.fsame
                cases ee : fe r1 with
                | bad => simp only [sRet, sUse, ee] at q3; exact q3.elim
                | exc e' => simp only [sRet, sUse, ee] at q3 ⊢; exact q3
                | ok z =>
                  simp only [sRet, sUse, ee] at q3 ⊢
                  cases z with
                  | nw o => exact q3
                  | vw o => exact q3.elim
                  | bw o => exact q3.elim
              refine he.use sr2 q2 fun z u Hf2 H2 L2 x2 sr3 a1 n1 q4 => ?_
              cases z with
              | nw o => exact q4 u Hf2 H2 L2 sr3.ext a1 (n1.mono sr2.ext.same)
              | vw o => exact q4.elim
              | bw o => exact q4.elim
      · have e : k = os.length := by omega
        subst e
        rw [List.drop_eq_nil_of_le (by simp)] at q
        exact .inl ⟨⟨vs, SqL.of hp, by omega⟩, q s Hf H L (Same.refl _) sr⟩
    · rw [if_neg hc] at q; exact q.elim
  · exact q.elim
theorem ds_forV {k i j : Nat} {x y : Str} {tg it t rv : Expr} {ipos rpos : Pos} {fe : FE} (B : Bk c X k) (hv : PE X it (tVar i)) (hg : PG X tg (gName j)) (ht : DT c X t ft) (he : DE c X rv fe)
    (hs : ∀ x, foldedSetIterable it X.env x = pure x := by intro _; rfl) : DS c X (.For tg it [.If t [.Return (some rv) rpos] [] ipos] [] pos) (sForV i j ft fe) := by
  obtain ⟨tt, p1, s1⟩ := ht.ex
  obtain ⟨te, p2, s2⟩ := he.ex
  exact ⟨_, ps_for B.po B.calm (pi_list hv) hg (pss_one (ps_if p1 (pss_one (ps_ret p2)) pss_nil)) hs, so_forV s1 s2⟩
/-! divmod -/
def gDivmod : List O → Res R
  | [.fz (.int i), .fz (.int j)] => if divOk i j then .ok (.nw (.fz (.tup [.int (i.fdiv j), .int (i.fmod j)]))) else .bad
  | _ => .bad
def rDivmod : List V → Hp → VK → Prop := fun xs H Q => ∃ i j, xs = [.int i, .int j] ∧ (j ≠ 0 ∧ j.natAbs.log2 < 9000) ∧ ∀ p, H p = none → Q (.ref p) (upd H p (.tup [.int (i.fdiv j), .int (i.fmod j)]))
theorem call_divmodD : CallR X (.builtin "divmod") rDivmod := by
  intro pins s σ H xs us Q I r h
  obtain ⟨i, j, rfl, ⟨h0, h1⟩, q⟩ := h
  obtain ⟨u, w, rfl, ⟨t, rfl⟩, ⟨t2, rfl⟩⟩ := vals2 r
  refine divmod_int h0 ?_ (.inl (PyProof.noPylong_of_log2 h1))
  have fresh : H s.heap.objs.size = none := I.hok.fresh (Nat.le_refl _)
  refine ⟨.ref s.heap.objs.size, _, ?_, rfl, q _ fresh⟩
  refine I.laid (fun b o e => Heap.get?_push_of_some _ e) (Nat.le_refl _) ⟨?_, [.int (i.fdiv j) s.toks, .int (i.fmod j) (s.toks + 1)], .cons ⟨_, rfl⟩ (.cons ⟨_, rfl⟩ .nil), ?_⟩
  · rw [sizeLine_eq]
    simp
  · exact ⟨_, Heap.get?_push_size s.heap rfl, rfl, 0, rfl⟩
theorem pc_divmod : PureC K rDivmod gDivmod := fun c s Hf H vs os Q sub h q => by
  rcases ints2 (k := fun i j => if divOk i j then .ok (.nw (.fz (.tup [.int (i.fdiv j), .int (i.fmod j)]))) else .bad) (g := gDivmod) (fun os => by unfold gDivmod; rfl) h with e0 | ⟨i, j, e0, ev⟩
  · rw [e0] at q; exact q.elim
  · rw [e0] at q
    by_cases hd : divOk i j = true
    · rw [if_pos hd] at q
      exact ⟨i, j, ev, of_decide_eq_true hd, fun p hp => postE_tup sub q ⟨_, _, rfl, rfl, _, _, rfl, rfl, rfl⟩ hp⟩
    · rw [if_neg hd] at q; exact q.elim
/-! min, max of a list of whole numbers -/
def intsOf : List O → Option (List Int)
  | [] => some []
  | .fz (.int i) :: r => (intsOf r).map (i :: ·)
  | _ => none
theorem intsOf_rep : ∀ {os : List O} {ns : List Int} {vs : List V}, intsOf os = some ns → RepVs K Hf H os vs → vs = ns.map V.int
  | [], ns, vs, e, h => by cases e; exact h
  | o :: os, ns, vs, e, h => by
    obtain ⟨v, r, e1, h1, h2⟩ := h
    subst e1
    cases o with
    | ls _ => simp [intsOf] at e
    | tp _ => simp [intsOf] at e
    | fz d =>
      cases d with
      | int i =>
        cases e2 : intsOf os with
        | none => simp [intsOf, e2] at e
        | some ms =>
          have e3 : i :: ms = ns := by simpa [intsOf, e2] using e
          subst e3
          have hv : v = .int i := h1
          rw [hv, intsOf_rep e2 h2]; rfl
      | _ => simp [intsOf] at e
def minL (x : Int) (xs : List Int) : Int := xs.foldl (fun a b => if b < a then b else a) x
def maxL (x : Int) (xs : List Int) : Int := xs.foldl (fun a b => if a < b then b else a) x
theorem minL_le : ∀ (xs : List Int) (x : Int), minL x xs ≤ x ∧ ∀ y ∈ xs, minL x xs ≤ y
  | [], x => ⟨Int.le_refl _, fun _ h => nomatch h⟩
  | a :: xs, x => by
    by_cases h : a < x
    · have e : minL x (a :: xs) = minL a xs := by show minL (if a < x then a else x) xs = _; rw [if_pos h]
      obtain ⟨h1, h2⟩ := minL_le xs a
      rw [e]
      refine ⟨by omega, fun y hy => ?_⟩
      rcases List.mem_cons.mp hy with h | h
      · rw [h]; exact h1
      · exact h2 y h
    · have e : minL x (a :: xs) = minL x xs := by show minL (if a < x then a else x) xs = _; rw [if_neg h]
      obtain ⟨h1, h2⟩ := minL_le xs x
      rw [e]
      refine ⟨h1, fun y hy => ?_⟩
      rcases List.mem_cons.mp hy with h | h
      · rw [h]; omega
      · exact h2 y h
theorem minL_mem : ∀ (xs : List Int) (x : Int), minL x xs ∈ x :: xs
  | [], x => List.mem_cons_self
  | a :: xs, x => by
    by_cases h : a < x
    · have e : minL x (a :: xs) = minL a xs := by show minL (if a < x then a else x) xs = _; rw [if_pos h]
      rw [e]
      exact List.mem_cons_of_mem _ (minL_mem xs a)
    · have e : minL x (a :: xs) = minL x xs := by show minL (if a < x then a else x) xs = _; rw [if_neg h]
      rw [e]
      rcases List.mem_cons.mp (minL_mem xs x) with h | h
      · rw [h]; exact List.mem_cons_self
      · exact List.mem_cons_of_mem _ (List.mem_cons_of_mem _ h)
theorem maxL_ge : ∀ (xs : List Int) (x : Int), x ≤ maxL x xs ∧ ∀ y ∈ xs, y ≤ maxL x xs
  | [], x => ⟨Int.le_refl _, fun _ h => nomatch h⟩
  | a :: xs, x => by
    by_cases h : x < a
    · have e : maxL x (a :: xs) = maxL a xs := by show maxL (if x < a then a else x) xs = _; rw [if_pos h]
      obtain ⟨h1, h2⟩ := maxL_ge xs a
      rw [e]
      refine ⟨by omega, fun y hy => ?_⟩
      rcases List.mem_cons.mp hy with h | h
      · rw [h]; exact h1
      · exact h2 y h
    · have e : maxL x (a :: xs) = maxL x xs := by show maxL (if x < a then a else x) xs = _; rw [if_neg h]
      obtain ⟨h1, h2⟩ := maxL_ge xs x
      rw [e]
      refine ⟨h1, fun y hy => ?_⟩
      rcases List.mem_cons.mp hy with h | h
      · rw [h]; omega
      · exact h2 y h
theorem maxL_mem : ∀ (xs : List Int) (x : Int), maxL x xs ∈ x :: xs
  | [], x => List.mem_cons_self
  | a :: xs, x => by
    by_cases h : x < a
    · have e : maxL x (a :: xs) = maxL a xs := by show maxL (if x < a then a else x) xs = _; rw [if_pos h]
      rw [e]
      exact List.mem_cons_of_mem _ (maxL_mem xs a)
    · have e : maxL x (a :: xs) = maxL x xs := by show maxL (if x < a then a else x) xs = _; rw [if_neg h]
      rw [e]
      rcases List.mem_cons.mp (maxL_mem xs x) with h | h
      · rw [h]; exact List.mem_cons_self
      · exact List.mem_cons_of_mem _ (List.mem_cons_of_mem _ h)
def gMinL : List O → Res R
  | [o] => (match (items o).bind intsOf with | some (x :: xs) => fzR (.int (minL x xs)) | _ => .bad)
  | _ => .bad
def gMaxL : List O → Res R
  | [o] => (match (items o).bind intsOf with | some (x :: xs) => fzR (.int (maxL x xs)) | _ => .bad)
  | _ => .bad
theorem ints_items {o : O} {ns : List Int} {v : V} (sub : Same Hf H) (h : RepV K Hf H o v) (e : (items o).bind intsOf = some ns) : ∃ a, v = .ref a ∧ SqL K H a (ns.map V.int) := by
  cases ei : items o with
  | none => rw [ei] at e; cases e
  | some os =>
    rw [ei] at e
    obtain ⟨a, vs, e1, h1, h2⟩ := items_rep sub h ei
    rw [intsOf_rep (show intsOf os = some ns from e) h2] at h1
    exact ⟨a, e1, h1⟩
theorem pc_minL : PureC K (rMin K) gMinL := fun c s Hf H vs os Q sub h q => by
  cases os with
  | nil => exact q.elim
  | cons o os =>
    cases os with
    | cons _ _ => exact q.elim
    | nil =>
      obtain ⟨v, e, h1⟩ := rep1 h
      subst e
      cases ei : (items o).bind intsOf with
      | none => simp only [gMinL, ei] at q; exact q.elim
      | some ns =>
        cases ns with
        | nil => simp only [gMinL, ei] at q; exact q.elim
        | cons x xs =>
          simp only [gMinL, ei] at q
          obtain ⟨a, e1, h2⟩ := ints_items sub h1 ei
          subst e1
          refine ⟨a, x :: xs, rfl, h2, by simp, fun m hm hle => ?_⟩
          have e : m = minL x xs := by
            obtain ⟨k1, k2⟩ := minL_le xs x
            have k3 := hle _ (minL_mem xs x)
            rcases List.mem_cons.mp hm with h | h
            · subst h; omega
            · have := k2 m h; omega
          rw [e]
          exact postE_fz sub q rfl
theorem pc_maxL : PureC K (rMax K) gMaxL := fun c s Hf H vs os Q sub h q => by
  cases os with
  | nil => exact q.elim
  | cons o os =>
    cases os with
    | cons _ _ => exact q.elim
    | nil =>
      obtain ⟨v, e, h1⟩ := rep1 h
      subst e
      cases ei : (items o).bind intsOf with
      | none => simp only [gMaxL, ei] at q; exact q.elim
      | some ns =>
        cases ns with
        | nil => simp only [gMaxL, ei] at q; exact q.elim
        | cons x xs =>
          simp only [gMaxL, ei] at q
          obtain ⟨a, e1, h2⟩ := ints_items sub h1 ei
          subst e1
          refine ⟨a, x :: xs, rfl, h2, by simp, fun m hm hle => ?_⟩
          have e : m = maxL x xs := by
            obtain ⟨k1, k2⟩ := maxL_ge xs x
            have k3 := hle _ (maxL_mem xs x)
            rcases List.mem_cons.mp hm with h | h
            · subst h; omega
            · have := k2 m h; omega
          rw [e]
          exact postE_fz sub q rfl
/-! is True, is False -/
def gIsB : O → O → Res R
  | .fz (.bl a), .fz (.bl b) => fzR (.bl (decide (a = b)))
  | _, _ => .bad
def gNotB : O → O → Res R
  | .fz (.bl a), .fz (.bl b) => fzR (.bl (!decide (a = b)))
  | _, _ => .bad
theorem bl2 {g : O → O → Res R} {k : Bool → Bool → Res R} (hg : ∀ a b, g a b = match a, b with | .fz (.bl x), .fz (.bl y) => k x y | _, _ => .bad) {a b : O} {x y : V} (ha : RepV K Hf H a x) (hb : RepV K Hf H b y) : g a b = .bad ∨ ∃ i j, x = .bl i ∧ y = .bl j ∧ g a b = k i j := by
  rw [hg]
  split
  · rename_i i j
    exact .inr ⟨i, j, ha, hb, rfl⟩
  · exact .inl rfl
theorem pr_isB : PureR K rIsB gIsB := fun c s Hf H x y a b Q sub ha hb q => by
  rcases bl2 (k := fun i j => fzR (.bl (decide (i = j)))) (g := gIsB) (fun a b => by unfold gIsB; rfl) ha hb with e | ⟨i, j, e1, e2, e⟩
  · rw [e] at q; exact q.elim
  · rw [e] at q; exact ⟨i, j, e1, e2, postE_fz sub q rfl⟩
theorem pr_notB : PureR K rNotB gNotB := fun c s Hf H x y a b Q sub ha hb q => by
  rcases bl2 (k := fun i j => fzR (.bl (!decide (i = j)))) (g := gNotB) (fun a b => by unfold gNotB; rfl) ha hb with e | ⟨i, j, e1, e2, e⟩
  · rw [e] at q; exact q.elim
  · rw [e] at q; exact ⟨i, j, e1, e2, postE_fz sub q rfl⟩
theorem dt_isB (ha : DE c X a fa) (hb : DE c X b fb) : DT c X (.Compare a [.Is] [b] pos) (tOf (eOp gIsB fa fb)) := dt_cmp op_isBl pr_isB ha hb (nomark _)
theorem dt_notB (ha : DE c X a fa) (hb : DE c X b fb) : DT c X (.Compare a [.IsNot] [b] pos) (tOf (eOp gNotB fa fb)) := dt_cmp op_notBl pr_notB ha hb (nomark _)
theorem de_isB (ha : DE c X a fa) (hb : DE c X b fb) : DE c X (.Compare a [.Is] [b] pos) (eOp gIsB fa fb) := de_cmp op_isBl pr_isB ha hb (nomark _)
theorem de_notB (ha : DE c X a fa) (hb : DE c X b fb) : DE c X (.Compare a [.IsNot] [b] pos) (eOp gNotB fa fb) := de_cmp op_notBl pr_notB ha hb (nomark _)
end DL

namespace DL
open PySem L2
/-- an int, a text, a truth value at a name -/
abbrev I (i : Int) : O := .fz (.int i)
abbrev VI (i : Int) : S := .vl true (.fz (.int i))
abbrev iL (xs : List Int) : List O := xs.map fun i => .fz (.int i)
/-- a name's int as a number of turns -/
def slotN (i : Nat) (r : Env) : Nat := match r[i]? with
  | some (.vl _ (.fz (.int k))) => k.natAbs
  | _ => 0
/-! one step of each form, for simp -/
section
variable {r r' : Env} {f g : FE} {F G : FS} {ft ft2 : Env → Res Bool}
@[simp] theorem res_ok {α β : Type} (a : α) (k : α → Res β) : (Res.ok a).bind k = k a := (rfl)
@[simp] theorem res_exc {α β : Type} (e : Ec) (k : α → Res β) : (Res.exc e).bind k = .exc e := (rfl)
@[simp] theorem res_bad {α β : Type} (k : α → Res β) : (Res.bad : Res α).bind k = .bad := (rfl)
@[simp] theorem see_fz (w : Bool) (d : D) : see w (.fz d) = .nw (.fz d) := (rfl)
@[simp] theorem see_ls (os : List O) : see true (.ls os) = .vw (.ls os) := (rfl)
@[simp] theorem see_lsB (os : List O) : see false (.ls os) = .bw (.ls os) := (rfl)
@[simp] theorem ra_nw (o : O) : (R.nw o).a = .fz (er o) := (rfl)
@[simp] theorem ra_vw (o : O) : (R.vw o).a = o := (rfl)
@[simp] theorem ra_bw (o : O) : (R.bw o).a = o := (rfl)
@[simp] theorem er_fz (d : D) : er (.fz d) = d := (rfl)
@[simp] theorem put_nwT (o : O) : put true (.nw o) = some (.vl true o) := (rfl)
@[simp] theorem put_nwF (o : O) : put false (.nw o) = some (.vl true (.fz (er o))) := (rfl)
@[simp] theorem put_bw (w : Bool) (o : O) : put w (.bw o) = some (.vl false o) := by cases w <;> rfl
@[simp] theorem eC_ev (d : D) : eC d r = .ok (.nw (.fz d)) := (rfl)
@[simp] theorem fzR_ev (d : D) : fzR d = .ok (.nw (.fz d)) := (rfl)
theorem eVar_of {i : Nat} {w : Bool} {o : O} (h : r[i]? = some (.vl w o)) : eVar i r = .ok (see w o) := by simp only [eVar, h]
@[simp] theorem eOp_ev (h : O → O → Res R) : eOp h f g r = (f r).bind fun x => (g r).bind fun y => h x.a y.a := (rfl)
@[simp] theorem eUn_ev (h : O → Res R) : eUn h f r = (f r).bind fun x => h x.a := (rfl)
@[simp] theorem tOf_ev : tOf f r = (f r).bind toB := (rfl)
@[simp] theorem toB_ev (b : Bool) : toB (.nw (.fz (.bl b))) = .ok b := (rfl)
@[simp] theorem gAdd_ev (i j : Int) : gAddA (.fz (.int i)) (.fz (.int j)) = .ok (.nw (.fz (.int (i + j)))) := (rfl)
@[simp] theorem gSub_ev (i j : Int) : gSub (.fz (.int i)) (.fz (.int j)) = .ok (.nw (.fz (.int (i - j)))) := (rfl)
theorem gMul_ev {i j : Int} (h : i.natAbs.log2 + j.natAbs.log2 < 1000000) : gMulA (.fz (.int i)) (.fz (.int j)) = .ok (.nw (.fz (.int (i * j)))) := by
  show (if mulOk i j = true then fzR (.int (i * j)) else .bad) = _
  rw [if_pos (show mulOk i j = true from decide_eq_true h)]; rfl
theorem gDiv_ev {i j : Int} (h : j ≠ 0) (h2 : j.natAbs.log2 < 9000) : gDiv (.fz (.int i)) (.fz (.int j)) = .ok (.nw (.fz (.int (i.fdiv j)))) := by
  show (if divOk i j = true then fzR (.int (i.fdiv j)) else .bad) = _
  rw [if_pos (show divOk i j = true from decide_eq_true ⟨h, h2⟩)]; rfl
theorem gMod_ev {i j : Int} (h : j ≠ 0) : gMod (.fz (.int i)) (.fz (.int j)) = .ok (.nw (.fz (.int (i.fmod j)))) := by
  show (if modOk i j = true then fzR (.int (i.fmod j)) else .bad) = _
  rw [if_pos (show modOk i j = true from decide_eq_true h)]; rfl
@[simp] theorem gLt_ev (i j : Int) : gLt (.fz (.int i)) (.fz (.int j)) = .ok (.nw (.fz (.bl (decide (i < j))))) := (rfl)
@[simp] theorem gLe_ev (i j : Int) : gLe (.fz (.int i)) (.fz (.int j)) = .ok (.nw (.fz (.bl (decide (i ≤ j))))) := (rfl)
@[simp] theorem gGt_ev (i j : Int) : gGt (.fz (.int i)) (.fz (.int j)) = .ok (.nw (.fz (.bl (decide (j < i))))) := (rfl)
@[simp] theorem gGe_ev (i j : Int) : gGe (.fz (.int i)) (.fz (.int j)) = .ok (.nw (.fz (.bl (decide (j ≤ i))))) := (rfl)
@[simp] theorem gEq_ev (i j : Int) : gEq (.fz (.int i)) (.fz (.int j)) = .ok (.nw (.fz (.bl (decide (i = j))))) := (rfl)
@[simp] theorem gNe_ev (i j : Int) : gNe (.fz (.int i)) (.fz (.int j)) = .ok (.nw (.fz (.bl (!decide (i = j))))) := (rfl)
@[simp] theorem gNeg_ev (i : Int) : gNeg (.fz (.int i)) = .ok (.nw (.fz (.int (-i)))) := (rfl)
@[simp] theorem aNil_ev : aNil r = .ok [] := (rfl)
@[simp] theorem aCons_ev (fs : Env → Res (List O)) : aCons f fs r = (f r).bind fun x => (fs r).bind fun xs => .ok (x.a :: xs) := (rfl)
@[simp] theorem eCall_ev (M : List O → Res O) (fs : Env → Res (List O)) : eCall M fs r = (fs r).bind fun os => (M os).bind fun o => .ok (.nw o) := (rfl)
@[simp] theorem eB_ev (h : List O → Res R) (fs : Env → Res (List O)) : eB h fs r = (fs r).bind h := (rfl)
@[simp] theorem gAbs_ev (i : Int) : gAbs [.fz (.int i)] = .ok (.nw (.fz (.int (if i < 0 then -i else i)))) := (rfl)
@[simp] theorem gMax_ev (i j : Int) : gMax2 [.fz (.int i), .fz (.int j)] = .ok (.nw (.fz (.int (if j > i then j else i)))) := (rfl)
@[simp] theorem gMin_ev (i j : Int) : gMin2 [.fz (.int i), .fz (.int j)] = .ok (.nw (.fz (.int (if j < i then j else i)))) := (rfl)
@[simp] theorem sSeq_ev : sSeq F G r = (match F r with | .nx r' => G r' | o => o) := (rfl)
@[simp] theorem sNil_ev : sNil r = .nx r := (rfl)
@[simp] theorem sSet_ev (i : Nat) (w : Bool) : sSet i w f r = (match f r with | .ok x => setS r i (put w x) | .exc e => .exc e r | .bad => .bad) := (rfl)
@[simp] theorem setS_ev (i : Nat) (y : S) : setS r i (some y) = if i < r.length then .nx (r.set i y) else .bad := (rfl)
@[simp] theorem sRet_ev : sRet f r = (match f r with | .ok x => retR x | .exc e => .exc e r | .bad => .bad) := (rfl)
@[simp] theorem retR_ev (o : O) : retR (.nw o) = .ret o := (rfl)
@[simp] theorem sIf_ev : sIf ft F G r = (match ft r with | .ok b => if b then F r else G r | .exc e => .exc e r | .bad => .bad) := (rfl)
@[simp] theorem tAnd_ev : tAndD ft ft2 r = (ft r).bind fun b => if b then ft2 r else .ok false := (rfl)
@[simp] theorem tOr_ev : tOrD ft ft2 r = (ft r).bind fun b => if b then .ok true else ft2 r := (rfl)
@[simp] theorem tNot_ev : tNotD ft r = (ft r).bind fun b => .ok (!b) := (rfl)
@[simp] theorem tYes_ev : tYesD r = .ok true := (rfl)
end
/-! loops -/
section
variable {fg : FG} {F : FS} {ft : Env → Res Bool} {f : FE} {r r' r1 : Env} {n : Nat}
theorem whl_t (h : ft r = .ok true) (h2 : F r = .nx r') : whl ft F (n + 1) r = whl ft F n r' := by simp [whl, h, h2]
theorem whl_f (h : ft r = .ok false) : whl ft F (n + 1) r = .nx r := by simp [whl, h]
theorem forL_nil : forL fg F [] r = .nx r := (rfl)
theorem forL_cons {x : R} {xs : List R} (h : fg x r = some r1) (h2 : F r1 = .nx r') : forL fg F (x :: xs) r = forL fg F xs r' := by simp [forL, h, h2]
/-- a loop by what holds ahead of each turn -/
theorem forL_inv {its : List R} (P : Nat → Env → Prop) (h0 : P 0 r) (step : ∀ (i : Nat) x r, its[i]? = some x → P i r → ∃ r1 r', fg x r = some r1 ∧ F r1 = .nx r' ∧ P (i + 1) r') : ∃ r', forL fg F its r = .nx r' ∧ P its.length r' := by
  have go : ∀ (l : List R) (i : Nat) (r : Env), (∀ (j : Nat) x, l[j]? = some x → its[i + j]? = some x) → P i r → ∃ r', forL fg F l r = .nx r' ∧ P (i + l.length) r' := by
    intro l
    induction l with
    | nil => intro i r _ p; exact ⟨r, rfl, p⟩
    | cons x l ih =>
      intro i r hl p
      obtain ⟨r1, r2, e1, e2, p2⟩ := step i x r (by simpa using hl 0 x rfl) p
      obtain ⟨r3, e3, p3⟩ := ih (i + 1) r2 (fun j y hy => by have := hl (j + 1) y (by simpa using hy); rw [show i + 1 + j = i + (j + 1) by omega]; exact this) p2
      exact ⟨r3, by rw [forL_cons e1 e2]; exact e3, by rw [List.length_cons, show i + (l.length + 1) = i + 1 + l.length by omega]; exact p3⟩
  obtain ⟨r', e, p⟩ := go its 0 r (fun j x h => by simpa using h) h0
  exact ⟨r', e, by simpa using p⟩
/-- a comprehension whose element is g of the item -/
theorem lcL_map {its : List R} (g : R → O) (h : ∀ x ∈ its, ∃ r1, fg x r = some r1 ∧ f r1 = .ok (.nw (g x))) : ∀ acc : List O, acc.length + its.length ≤ 100000 → lcL fg tYesD f r its acc = .ok (.nw (.ls (acc ++ its.map g))) := by
  induction its with
  | nil => intro acc _; simp [lcL]
  | cons x xs ih =>
    intro acc hl
    obtain ⟨r1, e1, e2⟩ := h x List.mem_cons_self
    simp only [List.length_cons] at hl
    have ih' := ih (fun y hy => h y (List.mem_cons_of_mem _ hy)) (acc ++ [g x]) (by simp; omega)
    unfold lcL
    simp only [e1, e2, tYes_ev, newO]
    rw [if_pos (by omega), ih']
    simp
end
@[simp] theorem gN_ev (i : Nat) (o : O) (r : Env) : gN i (.nw o) r = if i < r.length then some (r.set i (.vl true (.fz (er o)))) else none := (rfl)
theorem ers_iL (xs : List Int) : ers (iL xs) = xs.map .int := by rw [ers_eq, List.map_map]; rfl
@[simp] theorem er_ls (os : List O) : er (.ls os) = .lst (ers os) := (rfl)
theorem allFz_iL (xs : List Int) : allFz (iL xs) = true := by induction xs with
  | nil => rfl
  | cons x xs ih => exact ih
@[simp] theorem items_ls (os : List O) : items (.ls os) = some os := (rfl)
@[simp] theorem items_lst_ev (ds : List D) : items (.fz (.lst ds)) = some (ds.map .fz) := (rfl)
@[simp] theorem items_scr (ns : List Int) : items (.fz (.scr ns)) = some (iL ns) := (rfl)
theorem items_int (xs : List Int) : items (.fz (.lst (xs.map .int))) = some (iL xs) := by simp [iL]
@[simp] theorem gLen_ls (os : List O) : gLen [.ls os] = .ok (.nw (.fz (.int os.length))) := (rfl)
theorem lsR_ev {os : List O} (h : allFz os = true) (h2 : os.length ≤ 100000) : lsR os = .ok (.nw (.ls os)) := by
  unfold lsR
  rw [if_pos h2, if_pos h]
@[simp] theorem pNone_ev (r : Env) : pNone r = .ok none := (rfl)
@[simp] theorem eIsi_ev (T : Ty) (f : FE) (r : Env) : eIsi T f r = (f r).bind fun x => match tyO x.a with | some t => fzR (.bl (isT t T)) | none => .bad := (rfl)
@[simp] theorem iRng_ev (g : List O → Res (List R)) (fs : Env → Res (List O)) (r : Env) : iRng g fs r = (fs r).bind g := (rfl)
@[simp] theorem sFor_ev (fi : Env → Res (List R)) (fg : FG) (F : FS) (r : Env) : sFor fi fg F r = (match fi r with | .ok its => forL fg F its r | .exc e => .exc e r | .bad => .bad) := (rfl)
theorem atI_ok {α : Type} {xs : List α} {k : Int} {v : α} (h0 : 0 ≤ k) (h : xs[k.toNat]? = some v) : atI xs k = some v := by
  have hj : k.toNat < xs.length := (List.getElem?_eq_some_iff.mp h).1
  have e : ixN xs.length k = some k.toNat := by unfold ixN; rw [if_pos h0, if_pos (by omega)]
  unfold atI
  rw [e]; exact h
theorem gDiv_pos {i j : Int} (h : 0 < j) (h2 : j < 1073741824) : gDiv (.fz (.int i)) (.fz (.int j)) = .ok (.nw (.fz (.int (i.fdiv j)))) := by
  refine gDiv_ev (by omega) ?_
  have e : j.natAbs < 2 ^ 30 := by omega
  have := PySem.Flt.log2_lt_of (by decide : 0 < 30) e
  omega
theorem gMul_lt {i j : Int} (a b : Nat) (ha : i.natAbs < 2 ^ a) (hb : j.natAbs < 2 ^ b) (h0 : 0 < a) (h1 : 0 < b) (h : a + b ≤ 1000000) : gMulA (.fz (.int i)) (.fz (.int j)) = .ok (.nw (.fz (.int (i * j)))) := by
  refine gMul_ev ?_
  have x := PySem.Flt.log2_lt_of h0 ha
  have y := PySem.Flt.log2_lt_of h1 hb
  omega
section
variable {F G : FS} {r r' : Env} {o : Out} {ft : Env → Res Bool} {fg : FG} {fi : Env → Res (List R)} {its : List R} {f : FE} {x : R} {y : S}
theorem seq_go (h : F r = .nx r') (h2 : G r' = o) : sSeq F G r = o := by simp [h, h2]
theorem seq_ret {z : O} (h : F r = .ret z) : sSeq F G r = .ret z := by simp [h]
theorem seq_exc {e : Ec} (h : F r = .exc e r') : sSeq F G r = .exc e r' := by simp [h]
theorem if_t (h : ft r = .ok true) (h2 : F r = o) : sIf ft F G r = o := by simp [h, h2]
theorem if_f (h : ft r = .ok false) (h2 : G r = o) : sIf ft F G r = o := by simp [h, h2]
theorem for_go (h : fi r = .ok its) (h2 : forL fg F its r = o) : sFor fi fg F r = o := by simp [h, h2]
theorem set_go {i : Nat} {w : Bool} (h : f r = .ok x) (h2 : put w x = some y) (h3 : i < r.length) : sSet i w f r = .nx (r.set i y) := by simp [h, h2, h3]
theorem ret_go {z : O} (h : f r = .ok (.nw z)) : sRet f r = .ret z := by simp [h]
theorem run_ret {n : Nat} {os : List O} {z : O} (h : F (startE n os) = .ret z) : runF n F os = .ok z := by simp [runF, h]
theorem run_exc {n : Nat} {os : List O} {e : Ec} (h : F (startE n os) = .exc e r') : runF n F os = .exc e := by simp [runF, h]
end
theorem size_up {a b k : Int} (h : 0 < k) (hab : a < b) : Builtin.Range.rangeSize a b k = (b - a - 1) / k + 1 := by
  unfold Builtin.Range.rangeSize
  simp only [show k > 0 from h, hab, if_true]
theorem size_up0 {a b k : Int} (h : 0 < k) (hab : ¬ a < b) : Builtin.Range.rangeSize a b k = 0 := by
  unfold Builtin.Range.rangeSize
  simp only [show k > 0 from h, hab, if_true, if_false]
theorem small_up {a b k : Int} (h : 0 < k) (hk : k < 1073741824) (ha : -(2 ^ 62) ≤ a) (ha' : a < 2 ^ 62) (hb : -(2 ^ 62) ≤ b) (hb' : b < 2 ^ 62) (hsz : 0 ≤ Builtin.Range.rangeSize a b k ∧ Builtin.Range.rangeSize a b k < 2 ^ 63) : Builtin.Range.small a b k = true := by
  unfold Builtin.Range.small
  simp only [Builtin.Range.rangeFitsLong, Bool.and_eq_true, Bool.or_eq_true, decide_eq_true_eq, beq_iff_eq, show k > 0 from h, if_true]
  refine ⟨⟨⟨⟨by omega, by omega⟩, by omega⟩, by omega⟩, by omega⟩
theorem rng3_of {i j k : Int} (h1 : k ≠ 0) (h2 : k.natAbs < 1073741824) (h3 : Builtin.Range.small i j k = true) (h4 : 0 ≤ Builtin.Range.rangeSize i j k) :
    rng3 [.fz (.int i), .fz (.int j), .fz (.int k)] = .ok ((List.range (Builtin.Range.rangeSize i j k).toNat).map fun (n : Nat) => intR (i + (n : Nat) * k)) := by
  show (if (decide (k ≠ 0) && decide (k.natAbs < 1073741824) && Builtin.Range.small i j k && decide (0 ≤ Builtin.Range.rangeSize i j k)) = true then _ else Res.bad) = _
  rw [if_pos (by simp only [Bool.and_eq_true, decide_eq_true_eq]; exact ⟨⟨⟨h1, h2⟩, h3⟩, h4⟩)]
theorem rng3_up {a b k : Int} (h : 0 < k) (hk : k < 1073741824) (ha : -(2 ^ 62) ≤ a) (hab : a < b) (hb' : b < 2 ^ 62) : rng3 [.fz (.int a), .fz (.int b), .fz (.int k)] = .ok ((List.range ((b - a - 1) / k + 1).toNat).map fun (n : Nat) => intR (a + (n : Nat) * k)) := by
  have e := size_up h hab
  have h0 : 0 ≤ (b - a - 1) / k := Int.ediv_nonneg (by omega) (by omega)
  have h1 : (b - a - 1) / k ≤ b - a - 1 := Int.ediv_le_self _ (by omega)
  have hs := small_up h hk ha (by omega) (by omega) hb' (by rw [e]; omega)
  rw [rng3_of (by omega) (by omega) hs (by rw [e]; omega), e]
theorem rng3_up0 {a b k : Int} (h : 0 < k) (hk : k < 1073741824) (ha : -(2 ^ 62) ≤ b) (hab : ¬ a < b) (hb' : a < 2 ^ 62) : rng3 [.fz (.int a), .fz (.int b), .fz (.int k)] = .ok [] := by
  have e := size_up0 h hab
  have hs := small_up h hk (by omega) hb' ha (by omega) (by rw [e]; omega)
  rw [rng3_of (by omega) (by omega) hs (by rw [e]; omega), e]
  rfl
theorem rng3_dn {a b : Int} (ha : -(2 ^ 62) ≤ a) (ha' : a < 2 ^ 62) (hb : -(2 ^ 62) ≤ b) (hb' : b < 2 ^ 62) : rng3 [.fz (.int a), .fz (.int b), .fz (.int (-1))] = .ok ((List.range (a - b).toNat).map fun (n : Nat) => intR (a + (n : Nat) * (-1))) := by
  have e := PySem.W.rangeSize_downNat a b
  have hs := PySem.W.small_down ha ha' hb hb'
  rw [rng3_of (by omega) (by omega) hs (by rw [e]; omega), e, Int.toNat_natCast]
theorem rng1_ok {n : Int} (h : 0 ≤ n) (h2 : n < 2 ^ 62) : rng1 [.fz (.int n)] = .ok (rngL 0 n.toNat) := by
  show (if small62 n = true then Res.ok (rngL 0 n.toNat) else .bad) = _
  rw [if_pos (show small62 n = true from decide_eq_true ⟨by omega, h2⟩)]
theorem rng2_ok {a b : Int} (h : -(2 ^ 62) ≤ a) (h2 : a < 2 ^ 62) (h3 : -(2 ^ 62) ≤ b) (h4 : b < 2 ^ 62) : rng2 [.fz (.int a), .fz (.int b)] = .ok (rngL a (b - a).toNat) := by
  show (if (small62 a && small62 b) = true then Res.ok (rngL a (b - a).toNat) else .bad) = _
  rw [if_pos (show (small62 a && small62 b) = true by rw [Bool.and_eq_true]; exact ⟨decide_eq_true ⟨h, h2⟩, decide_eq_true ⟨h3, h4⟩⟩)]
theorem take_iL (xs : List Int) (n : Nat) : (iL xs).take n = iL (xs.take n) := by simp [iL, List.map_take]
@[simp] theorem iL_length (xs : List Int) : (iL xs).length = xs.length := by simp [iL]
theorem iL_get {xs : List Int} {i : Nat} (h : i < xs.length) : (iL xs)[i]? = some (.fz (.int xs[i])) := by simp [iL, h]
theorem ixO_iL {xs : List Int} {i : Nat} {k : Int} (hk : k = (i : Int)) (h : i < xs.length) : ixO (.ls (iL xs)) k = some (.fz (.int xs[i])) := by
  show atI (iL xs) k = _
  refine atI_ok (by omega) ?_
  rw [show k.toNat = i by omega]; exact iL_get h
section
variable {f g : FE} {r : Env} {o p : O} {k : Int} {d : D}
theorem ix_vw (h1 : f r = .ok (.vw o)) (h2 : g r = .ok (.nw (.fz (.int k)))) (h : ixO o k = some p) : eIx f g r = .ok (see true p) := by simp [eIx, h1, h2, h]
theorem ix_bw (h1 : f r = .ok (.bw o)) (h2 : g r = .ok (.nw (.fz (.int k)))) (h : ixO o k = some p) : eIx f g r = .ok (see false p) := by simp [eIx, h1, h2, h]
theorem ix_nw (h1 : f r = .ok (.nw o)) (h2 : g r = .ok (.nw (.fz (.int k)))) (h : ixO (.fz (er o)) k = some (.fz d)) : eIx f g r = .ok (.nw (.fz d)) := by simp [eIx, h1, h2, h]
theorem forL_two {fg : FG} {F : FS} {x y : R} {r1 r2 r3 r4 : Env} (h1 : fg x r = some r1) (h2 : F r1 = .nx r2) (h3 : fg y r2 = some r3) (h4 : F r3 = .nx r4) : forL fg F [x, y] r = .nx r4 := by
  rw [forL_cons h1 h2, forL_cons h3 h4]; rfl
end
/-! exceptions -/
section
variable {F G : FS} {r r' : Env} {o : Out} {f : FE} {e : Ec} {tab : List (Str × Bool)} {i : Nat}
@[simp] theorem sUse_ev (k : R → Env → Out) : sUse f k r = (match f r with | .ok x => k x r | .exc e => .exc e r | .bad => .bad) := (rfl)
@[simp] theorem sDrop_ev : sDrop f r = (match f r with | .ok _ => .nx r | .exc e => .exc e r | .bad => .bad) := (rfl)
@[simp] theorem sRaise_ev (x : Str) : sRaise x r = .exc ⟨x, []⟩ r := (rfl)
@[simp] theorem offS_nx : offS i (.nx r) = .nx (r.set i .un) := (rfl)
@[simp] theorem offS_ret {z : O} : offS i (.ret z) = .ret z := (rfl)
@[simp] theorem lookup_self (x : Str) (b : Bool) (t : List (Str × Bool)) : List.lookup x ((x, b) :: t) = some b := by simp [List.lookup]
theorem try_nx (h : F r = .nx r') : sTryAs tab i F G r = .nx r' := by simp [sTryAs, h]
theorem try_exc (h : F r = .exc e r') (hl : tab.lookup e.c = some true) (hi : i < r'.length) (h2 : offS i (G (r'.set i (.vl true (.fz (.ex e))))) = o) : sTryAs tab i F G r = o := by
  simp only [sTryAs, h, hl, hi, if_true, h2]
theorem try_pass (h : F r = .exc e r') (hl : tab.lookup e.c = some false) : sTryAs tab i F G r = .exc e r' := by simp only [sTryAs, h, hl]
theorem tryO_nx (h : F r = .nx r') : sTryO tab F G r = .nx r' := by simp [sTryO, h]
theorem tryO_exc {r2 : Env} (h : F r = .exc e r') (hl : tab.lookup e.c = some true) (h2 : G r' = .nx r2) : sTryO tab F G r = .nx r2 := by
  simp only [sTryO, h, hl, h2]
theorem isX_non (h : f r = .ok (.nw (.fz .non))) : eIsX tab f r = .ok (.nw (.fz (.bl false))) := by simp [eIsX, h]
theorem isX_ex {x : Str} {b : Bool} (h : f r = .ok (.nw (.fz (.ex ⟨x, []⟩)))) (hl : tab.lookup x = some b) : eIsX tab f r = .ok (.nw (.fz (.bl b))) := by simp [eIsX, h, hl]
end
theorem ix_scr {f g : FE} {r : Env} {ns : List Int} {i : Nat} {k : Int} (h1 : f r = .ok (.nw (.fz (.scr ns)))) (h2 : g r = .ok (.nw (I k))) (hk : k = (i : Int)) (h : i < ns.length) : eIx f g r = .ok (.nw (I ns[i])) := by
  have e : ixO (.fz (.scr ns)) k = some (I ns[i]) := by
    show atI (iL ns) k = _
    refine atI_ok (by omega) ?_
    rw [show k.toNat = i by omega]; exact iL_get h
  simp [eIx, h1, h2, e]
@[simp] theorem gLen_scr (ns : List Int) : gLen [.fz (.scr ns)] = .ok (.nw (I ns.length)) := by
  show (match (items (.fz (.scr ns))).map List.length with | some n => fzR (.int n) | none => .bad) = _
  simp
theorem tOf_ok {f : FE} {r : Env} {b : Bool} (h : f r = .ok (.nw (.fz (.bl b)))) : tOf f r = .ok b := by simp [h]
theorem tNot_ok {ft : Env → Res Bool} {r : Env} {b : Bool} (h : ft r = .ok b) : tNotD ft r = .ok (!b) := by simp [h]
theorem call_ok {M : List O → Res O} {fs : Env → Res (List O)} {r : Env} {os : List O} {o : O} (h : fs r = .ok os) (h2 : M os = .ok o) : eCall M fs r = .ok (.nw o) := by simp [h, h2]
theorem asgT_go {fg : FG} {f : FE} {r r1 : Env} {x : R} (h : f r = .ok x) (h2 : fg x.z r = some r1) : sAsgT fg f r = .nx r1 := by
  show (match f r with | .ok x => (match fg x.z r with | some r1 => Out.nx r1 | none => .bad) | .exc e => .exc e r | .bad => .bad) = _
  rw [h]; simp only [h2]
end DL

namespace DL
open PySem L2
section
variable {X : Cx}
/-! int of a truth value -/
theorem call_intB : CallR X (.type "int") (fun xs H Q => ∃ b : Bool, xs = [.bl b] ∧ Q (.int (if b then 1 else 0)) H) := by
  intro pins s σ H xs us Q I r h
  obtain ⟨b, rfl, q⟩ := h
  obtain ⟨u, rfl, rfl⟩ := vals1 r
  exact call_int_bool ⟨.int (if b then 1 else 0), H, I.tok _, ⟨_, rfl⟩, q⟩
end
section
variable {K : PySem.W.Frag}
def gIntB : List O → Res R
  | [.fz (.bl b)] => fzR (.int (if b then 1 else 0))
  | _ => .bad
theorem pc_intB : PureC K (fun xs H Q => ∃ b : Bool, xs = [.bl b] ∧ Q (.int (if b then 1 else 0)) H) gIntB := fun c s Hf H vs os Q sub h q => by
  cases os with
  | nil => exact q.elim
  | cons o os =>
    cases os with
    | cons _ _ =>
      cases o with
      | ls _ => exact q.elim
      | tp _ => exact q.elim
      | fz d => cases d <;> exact q.elim
    | nil =>
      obtain ⟨v, e, h1⟩ := rep1 h
      subst e
      cases o with
      | ls _ => exact q.elim
      | tp _ => exact q.elim
      | fz d =>
        cases d with
        | bl b =>
          have h1' : v = .bl b := h1
          subst h1'
          exact ⟨b, rfl, postE_fz sub q rfl⟩
        | _ => exact q.elim
end
@[simp] theorem gIntB_ev (b : Bool) : gIntB [.fz (.bl b)] = .ok (.nw (.fz (.int (if b then 1 else 0)))) := (rfl)
end DL

namespace DL
open PySem L2
variable {c : Cn} {X : Cx} {a b e : Expr} {es : List Expr} {f g fa fb : FE} {pos : Pos} {fs : Env → Res (List O)} {K : PySem.W.Frag} {H0 H H' Hf Hf' : Hp} {F G : FS} {st : Stmt} {sts : List Stmt} {ft : Env → Res Bool}
/-! a list of one's own within a list of one's own is changed -/
theorem RepOs.at : ∀ {os : List O} {vs : List V} {L : List Addr} {j : Nat} {o : O}, RepOs K Hf H os vs L → os[j]? = some o → ∃ v L1 M L2, vs[j]? = some v ∧ L = L1 ++ M ++ L2 ∧ RepO K Hf H o v M ∧
    ∀ (Hf' H' : Hp) (o' : O) (M' : List Addr), Same Hf Hf' → (∀ a ∈ L1 ++ L2, ∀ u, H a = some u → H' a = some u) → RepO K Hf' H' o' v M' → RepOs K Hf' H' (os.set j o') vs (L1 ++ M' ++ L2)
  | [], _, _, _, _, _, e => by simp at e
  | z :: r, _, L, 0, o, h, e => by
    obtain ⟨v, t, L1, L2, e1, e2, h1, h2⟩ := h
    subst e1 e2
    have e3 : z = o := by simpa using e
    subst e3
    refine ⟨v, [], L1, L2, rfl, rfl, h1, fun Hf' H' o' M' f k q => ?_⟩
    exact ⟨v, t, M', L2, rfl, rfl, q, RepOs.mono f r t L2 (fun a ha => k a (by simpa using ha)) h2⟩
  | z :: r, _, L, j + 1, o, h, e => by
    obtain ⟨v, t, L1, L2, e1, e2, h1, h2⟩ := h
    subst e1 e2
    obtain ⟨v2, A, M, B, f1, f2, f3, f4⟩ := RepOs.at (j := j) (o := o) h2 (by simpa using e)
    subst f2
    refine ⟨v2, L1 ++ A, M, B, by simpa using f1, by simp [List.append_assoc], f3, fun Hf' H' o' M' f k q => ?_⟩
    refine ⟨v, t, L1, A ++ M' ++ B, rfl, by simp [List.append_assoc], RepO.mono f z v L1 (fun a ha => k a (by simp [ha])) h1, f4 Hf' H' o' M' f (fun a ha => k a ?_) q⟩
    simp only [List.mem_append] at ha ⊢
    rcases ha with ha | ha
    · exact .inl (.inr ha)
    · exact .inr ha
/-- the list at place j of the list at a name gets other items -/
theorem SR.write1 {r : Env} {s : St} {L : List Addr} {i j : Nat} {os ps : List O} (sr : c.SR K r s Hf H L) (e : r[i]? = some (.vl true (.ls os))) (ej : os[j]? = some (.ls ps)) :
    ∃ p vs q ws, s[i]? = some (some (.ref p)) ∧ H p = some (.lst vs) ∧ vs.length = os.length ∧ vs[j]? = some (.ref q) ∧ H q = some (.lst ws) ∧ RepVs K Hf H ps ws ∧
      (allFz ps = true → ∀ Hf1 H1 ps' ws', Ext Hf H Hf1 H1 → allFz ps' = true → RepVs K Hf1 H1 ps' ws' → ∃ L', c.SR K (r.set i (.vl true (.ls (os.set j (.ls ps'))))) s Hf1 (upd H1 q (.lst ws')) L') := by
  obtain ⟨z, L1, M, L2, h1, h2, h3, h4⟩ := sr.env.at e
  cases z with
  | none => exact h3.elim
  | some v =>
    obtain ⟨p, vs, M', e1, e2, e3, e4⟩ := h3
    subst e1 e4
    obtain ⟨w, A, N, B, g1, g2, g3, g4⟩ := RepOs.at e3 ej
    obtain ⟨q, ws, N', k1, k2, k3, k4⟩ := g3
    subst k1 k4 g2
    have hqL : q ∈ L := by rw [h2]; simp
    have hpL : p ∈ L := by rw [h2]; simp
    refine ⟨p, vs, q, ws, h1, e2, RepOs.length e3, g1, k2, RepOs.view ps ws N' k3, fun hall Hf1 H1 ps' ws' x1 hall' rv' => ?_⟩
    have sr1 := sr.mono x1
    have nd := sr.nd
    rw [h2] at nd
    have nd' : (L1 ++ (p :: (A ++ (q :: N') ++ B)) ++ L2).Nodup := nd
    have nd2 : ((L1 ++ p :: A) ++ q :: (N' ++ (B ++ L2))).Nodup := by simpa [List.append_assoc] using nd'
    have nq := (List.nodup_cons.mp (List.perm_middle.nodup_iff.mp nd2)).1
    have qn : ∀ a ∈ L1 ++ [p] ++ A ++ B ++ L2, a ≠ q := fun a ha e => by
      subst e
      refine nq ?_
      simp only [List.mem_append, List.mem_cons, List.mem_singleton, List.not_mem_nil, or_false] at ha ⊢
      rcases ha with (((h | h) | h) | h) | h <;> simp [h]
    have rq : RepO K Hf1 (upd H1 q (.lst ws')) (.ls ps') (.ref q) [q] := ⟨q, ws', [], rfl, upd_same, repVs_O hall' rv', rfl⟩
    have in1 := g4 Hf1 (upd H1 q (.lst ws')) (.ls ps') [q] x1.fsame (fun a ha u qq => by
      rw [upd_ne (qn a (by simp only [List.mem_append] at ha ⊢; rcases ha with ha | ha <;> simp [ha]))]; exact x1.same a u qq) rq
    have rp : RepO K Hf1 (upd H1 q (.lst ws')) (.ls (os.set j (.ls ps'))) (.ref p) (p :: (A ++ [q] ++ B)) :=
      ⟨p, vs, A ++ [q] ++ B, rfl, by rw [upd_ne (qn p (by simp))]; exact x1.same _ _ e2, in1, rfl⟩
    have env' := h4 Hf1 (upd H1 q (.lst ws')) (.vl true (.ls (os.set j (.ls ps')))) (some (.ref p)) _ x1.fsame (fun a ha u qq => by
      rw [upd_ne (qn a (by simp only [List.mem_append] at ha ⊢; rcases ha with ha | ha <;> simp [ha]))]; exact x1.same a u qq) rp
    have es : s.set i (some (V.ref p)) = s := by
      obtain ⟨hl, hg⟩ := List.getElem?_eq_some_iff.mp h1
      rw [← hg]; exact List.set_getElem_self hl
    rw [es] at env'
    have hqf := (sr1.fr q hqL).1
    have hq0 := (sr.fr q hqL).2
    have sub' : ∀ a ∈ L1 ++ (p :: (A ++ [q] ++ B)) ++ L2, a ∈ L := fun a ha => by
      rw [h2]; simp only [List.mem_append, List.mem_cons, List.mem_singleton, List.not_mem_nil, or_false] at ha ⊢
      rcases ha with (h | h | (h | h) | h) | h <;> simp [h]
    refine ⟨_, ⟨?_, ?_, ?_, ?_⟩, env', ?_, fun a ha => ⟨(sr1.fr a (sub' a ha)).1, (sr1.fr a (sub' a ha)).2⟩, fun a ha => ?_⟩
    · exact fun a u qq => by rw [upd_ne (ne_of_none qq hq0)]; exact sr1.ext.same a u qq
    · exact sr1.ext.fsame
    · exact fun a u qq => by rw [upd_ne (ne_of_none qq hqf)]; exact sr1.ext.sub a u qq
    · exact sr1.ext.keep
    · refine nd2.sublist ?_
      have e1 : L1 ++ (p :: (A ++ [q] ++ B)) ++ L2 = (L1 ++ p :: A) ++ q :: (B ++ L2) := by simp [List.append_assoc]
      rw [e1]
      exact (List.Sublist.refl _).append (List.Sublist.cons_cons q (List.sublist_append_right N' (B ++ L2)))
    · by_cases hp : a = q
      · subst hp; rw [upd_same]; simp
      · rw [upd_ne hp]; exact sr1.ok a (sub' a ha)
/-- place k of the list of one's own at i: a list of one's own -/
def onOwn1 (i : Nat) (k : Int) (r : Env) (kk : List O → Nat → List O → Out) : Out := match r[i]? with
  | some (.vl true (.ls os)) => (match ixN os.length k with
    | some j => (match os[j]? with
      | some (.ls ps) => if allFz ps then kk os j ps else .bad
      | _ => .bad)
    | none => .bad)
  | _ => .bad
theorem onOwn1_of {i : Nat} {k : Int} {r : Env} {kk : List O → Nat → List O → Out} {D : Ends} {G : Hp} (q : PostS c K G D (onOwn1 i k r kk)) :
    ∃ os j ps, r[i]? = some (.vl true (.ls os)) ∧ ixN os.length k = some j ∧ os[j]? = some (.ls ps) ∧ allFz ps = true ∧ PostS c K G D (kk os j ps) := by
  unfold onOwn1 at q
  split at q
  · rename_i os e
    split at q
    · rename_i j ej
      split at q
      · rename_i ps ep
        by_cases h : allFz ps = true
        · rw [if_pos h] at q; exact ⟨os, j, ps, e, ej, ep, h, q⟩
        · rw [if_neg h] at q; exact q.elim
      · exact q.elim
    · exact q.elim
  · exact q.elim
/-- the index: a whole number -/
def sIx (g : FE) (kk : Int → Env → Out) : FS := sUse g fun y r => match y.a with
  | .fz (.int k) => kk k r
  | _ => .bad
theorem sIx_of {ti : TE} {r : Env} {s : St} {L : List Addr} {D : Ends} {kk : Int → Env → Out} (hi : SoE c K ti g) (sr : c.SR K r s Hf H L) (q : PostS c K Hf D (sIx g kk r)) {Q : VK}
    (hq : ∀ k Hf1 H1, Ext Hf H Hf1 H1 → c.SR K r s Hf1 H1 L → PostS c K Hf1 D (kk k r) → Q (.int k) H1) : ti s H Q := by
  refine hi.use sr q fun y w Hf1 H1 L1 x1 sr1 a1 n1 q1 => ?_
  have b2 := (a1.argR n1).a sr1.same0
  have x2 := x1.add n1
  cases ey : y.a with
  | ls _ => simp only [ey] at q1; exact q1.elim
  | tp _ => simp only [ey] at q1; exact q1.elim
  | fz d =>
    cases d with
    | int k =>
      simp only [ey] at q1
      rw [ey] at b2
      have b3 : w = .int k := b2
      subst b3
      exact hq k _ H1 x2 (sr.mono x2) (q1.mono (addF_nw n1))
    | _ => simp only [ey] at q1; exact q1.elim
theorem ixN_lt {n : Nat} {k : Int} {j : Nat} (h : ixN n k = some j) : j < n := by
  unfold ixN at h
  split at h
  · split at h
    · cases h; omega
    · cases h
  · split at h
    · cases h; omega
    · cases h
/-- x[g] read as an address -/
theorem rIx_own {j : Nat} {k : Int} {os : List O} {p : Addr} {vs : List V} {q : Addr} {Q : VK} (h2 : H p = some (.lst vs)) (hl : vs.length = os.length) (h3 : vs[j]? = some (.ref q)) (ek : ixN os.length k = some j) (h : Q (.ref q) H) : rIx K (.ref p) (.int k) H Q :=
  .inl ⟨p, vs, k, .ref q, rfl, rfl, SqL.of h2, by unfold atI; rw [hl, ek]; exact h3, h⟩
/-- the slot holds a list of one's own -/
def onLs (i : Nat) (F : FS) : FS := fun r => match r[i]? with
  | some (.vl true (.ls _)) => F r
  | _ => .bad
theorem onLs_of {i : Nat} {r : Env} {s : St} {L : List Addr} {D : Ends} {G : Hp} (sr : c.SR K r s Hf H L) (q : PostS c K G D (onLs i F r)) : ∃ os v, r[i]? = some (.vl true (.ls os)) ∧ s[i]? = some (some v) ∧ PostS c K G D (F r) := by
  unfold onLs at q
  split at q
  · rename_i os e
    obtain ⟨v, h, _⟩ := sr.slot e
    exact ⟨os, v, e, h, q⟩
  · exact q.elim
/-- x[g].append(f) -/
def sApp1 (i : Nat) (g f : FE) : FS := onLs i (sIx g fun k r => onOwn1 i k r fun os j ps => sUse f (fun x r => match x.a with
    | .fz d => if ps.length ≤ 100000 then .nx (r.set i (.vl true (.ls (os.set j (.ls (ps ++ [.fz d])))))) else .bad
    | .ls _ => .bad
    | .tp _ => .bad) r)
theorem ds_app1 {i : Nat} {o ei : Expr} {p1 apos cpos : Pos} (hv : PE X o (tVar i)) (hi : DE c X ei g) (h : DE c X e f) (hp : PlainIx ei := by exact fun _ _ => rfl)
    (hbase : attributeBase (.Subscript o ei p1) "append" X.env (eval (.Subscript o ei p1) X.env) = eval (.Subscript o ei p1) X.env := by rfl)
    (hfew : ((backTo cpos (starEach [e] X.env)).all (fun x => !x.1) && (backToKw cpos (keywordEach [] X.env)).all (fun x => x.1.isSome)
      && decide (([e] : List Expr).length + ([] : List Keyword).length + (if ([] : List Keyword).isEmpty then 0 else 1) < 30)) = true := by rfl)
    (hline : (apos.endLine == cpos.line) = true := by rfl) (hs : starEach [e] X.env = (false, eval e X.env) :: starEach [] X.env := by rfl) (hplain : (backTo cpos (starEach [] X.env)).any (·.1) = false := by rfl)
    (hsw : swapsWith (.Call (.Attribute (.Subscript o ei p1) "append" apos) [e] [] cpos) none pos.line X.env = pure false := by rfl) : DS c X (.Expr (.Call (.Attribute (.Subscript o ei p1) "append" apos) [e] [] cpos) pos) (sApp1 i g f) := by
  obtain ⟨t, p, s⟩ := h.ex
  obtain ⟨ti, pi, si⟩ := hi.ex
  refine ⟨_, ps_expr (pe_bm PySem.F.plainAttrs_list PySem.F.slot_list_append PySem.F.type_list_append mt_append (pe_ix ix_seq hv pi hp) (pa_cons p pa_nil hs) hbase hfew hline hs hplain) hsw, fun r s' Hf H L sr D q => ?_⟩
  obtain ⟨os0, v0, _, hv0, q⟩ := onLs_of sr q
  refine ⟨v0, hv0, sIx_of si sr q fun k Hf1 H1 x1 sr1 q1 => ?_⟩
  obtain ⟨os, j, ps, eo, ek, ej, hall, q2⟩ := onOwn1_of q1
  obtain ⟨pp, vs, qq, ws, h1, h2, h3, h4, h5, h6, h7⟩ := sr1.write1 eo ej
  rw [h1] at hv0
  cases hv0
  refine rIx_own h2 h3 h4 ek ⟨.inl ⟨rfl, ws, SqL.of h5⟩, ?_⟩
  refine s.use sr1 q2 fun x u Hf2 H2 L1 x2 sr2 a1 n1 q3 => ?_
  have a2 := (a1.argR n1).a sr2.same0
  have x3 := x2.add n1
  cases ex : x.a with
  | ls _ => simp only [ex] at q3; exact q3.elim
  | tp _ => simp only [ex] at q3; exact q3.elim
  | fz d =>
    simp only [ex] at q3
    rw [ex] at a2
    by_cases hl : ps.length ≤ 100000
    · rw [if_pos hl] at q3
      have lv : ws.length = ps.length := RepVs.length h6
      refine ⟨qq, ws, u, rfl, rfl, x2.same _ _ h5, Nat.lt_of_le_of_lt (show ws.length ≤ 100000 by omega) (by decide), ?_⟩
      obtain ⟨L', sr3⟩ := h7 hall (addF Hf2 H2 L1) H2 (ps ++ [.fz d]) (ws ++ [u]) x3 (by rw [allFz_append, hall]; rfl) ((RepVs.mono x3.fsame x3.same ps ws h6).append ⟨u, [], rfl, a2, rfl⟩)
      exact q3 _ _ _ _ (addF_nw n1) sr3
    · rw [if_neg hl] at q3; exact q3.elim
/-- x[g].pop() alone -/
def sPop1 (i : Nat) (g : FE) : FS := onLs i (sIx g fun k r => onOwn1 i k r fun os j ps => if ps.length = 0 then .bad else .nx (r.set i (.vl true (.ls (os.set j (.ls ps.dropLast))))))
theorem ds_pop1 {i : Nat} {o ei : Expr} {p1 apos cpos : Pos} (hv : PE X o (tVar i)) (hi : DE c X ei g) (hp : PlainIx ei := by exact fun _ _ => rfl)
    (hbase : attributeBase (.Subscript o ei p1) "pop" X.env (eval (.Subscript o ei p1) X.env) = eval (.Subscript o ei p1) X.env := by rfl) (hline : (apos.endLine == cpos.line) = true := by rfl)
    (hsw : swapsWith (.Call (.Attribute (.Subscript o ei p1) "pop" apos) [] [] cpos) none pos.line X.env = pure false := by rfl) : DS c X (.Expr (.Call (.Attribute (.Subscript o ei p1) "pop" apos) [] [] cpos) pos) (sPop1 i g) := by
  obtain ⟨ti, pi, si⟩ := hi.ex
  refine ⟨_, ps_expr (pe_bm0 PySem.F.plainAttrs_list PySem.F.slot_list_pop PySem.F.type_list_pop mt_pop (pe_ix ix_seq hv pi hp) hbase hline) hsw, fun r s' Hf H L sr D q => ?_⟩
  obtain ⟨os0, v0, _, hv0, q⟩ := onLs_of sr q
  refine ⟨v0, hv0, sIx_of si sr q fun k Hf1 H1 x1 sr1 q1 => ?_⟩
  obtain ⟨os, j, ps, eo, ek, ej, hall, q2⟩ := onOwn1_of q1
  obtain ⟨pp, vs, qq, ws, h1, h2, h3, h4, h5, h6, h7⟩ := sr1.write1 eo ej
  rw [h1] at hv0
  cases hv0
  refine rIx_own h2 h3 h4 ek ⟨.inl ⟨rfl, ws, SqL.of h5⟩, ?_⟩
  by_cases hz : ps.length = 0
  · rw [if_pos hz] at q2; exact q2.elim
  · rw [if_neg hz] at q2
    have lv : ws.length = ps.length := RepVs.length h6
    have hlt : ws.length - 1 < ws.length := by omega
    refine ⟨qq, ws, ws[ws.length - 1], rfl, rfl, h5, by simp [hlt], ?_⟩
    obtain ⟨L', sr2⟩ := h7 hall Hf1 H1 ps.dropLast ws.dropLast (Ext.refl sr1.sub) (allFz_dropLast hall) (RepVs.dropLast h6)
    exact q2 _ _ _ _ (Same.refl _) sr2
/-- x[g].clear() -/
def sClear1 (i : Nat) (g : FE) : FS := onLs i (sIx g fun k r => onOwn1 i k r fun os j ps => .nx (r.set i (.vl true (.ls (os.set j (.ls []))))))
theorem ds_clear1 {i : Nat} {o ei : Expr} {p1 apos cpos : Pos} (hv : PE X o (tVar i)) (hi : DE c X ei g) (hp : PlainIx ei := by exact fun _ _ => rfl)
    (hbase : attributeBase (.Subscript o ei p1) "clear" X.env (eval (.Subscript o ei p1) X.env) = eval (.Subscript o ei p1) X.env := by rfl) (hline : (apos.endLine == cpos.line) = true := by rfl)
    (hsw : swapsWith (.Call (.Attribute (.Subscript o ei p1) "clear" apos) [] [] cpos) none pos.line X.env = pure false := by rfl) : DS c X (.Expr (.Call (.Attribute (.Subscript o ei p1) "clear" apos) [] [] cpos) pos) (sClear1 i g) := by
  obtain ⟨ti, pi, si⟩ := hi.ex
  refine ⟨_, ps_expr (pe_bm0 PySem.F.plainAttrs_list PySem.F.slot_list_clear PySem.F.type_list_clear mt_clear (pe_ix ix_seq hv pi hp) hbase hline) hsw, fun r s' Hf H L sr D q => ?_⟩
  obtain ⟨os0, v0, _, hv0, q⟩ := onLs_of sr q
  refine ⟨v0, hv0, sIx_of si sr q fun k Hf1 H1 x1 sr1 q1 => ?_⟩
  obtain ⟨os, j, ps, eo, ek, ej, hall, q2⟩ := onOwn1_of q1
  obtain ⟨pp, vs, qq, ws, h1, h2, h3, h4, h5, h6, h7⟩ := sr1.write1 eo ej
  rw [h1] at hv0
  cases hv0
  refine rIx_own h2 h3 h4 ek ⟨.inl ⟨rfl, ws, SqL.of h5⟩, qq, ws, rfl, rfl, h5, ?_⟩
  obtain ⟨L', sr2⟩ := h7 hall Hf1 H1 [] [] (Ext.refl sr1.sub) rfl rfl
  exact q2 _ _ _ _ (Same.refl _) sr2
/-- x[g][g2] = f: the value first, then the indices -/
def sPut1 (i : Nat) (f g g2 : FE) : FS := sUse f fun x r => onLs i (sIx g fun k r => onOwn1 i k r fun os j ps => sIx g2 (fun m r => match x.a with
    | .fz d => (match ixN ps.length m with
      | some t => .nx (r.set i (.vl true (.ls (os.set j (.ls (ps.set t (.fz d)))))))
      | none => .bad)
    | _ => .bad) r) r
theorem ds_put1 {i : Nat} {o ei ej ev : Expr} {p1 p2 : Pos} {g2 : FE} (hv : PE X o (tVar i)) (h : DE c X ev f) (hi : DE c X ei g) (hj : DE c X ej g2) (hp : PlainIx ei := by exact fun _ _ => rfl)
    (ha : ∀ v, assign (.Subscript (.Subscript o ei p1) ej p2) X.env v = (do
      let ov ← holding [v] (eval (.Subscript o ei p1) X.env)
      let iv ← holding [v, ov] (eval ej X.env)
      standAt p2
      holding [v, ov, iv] (setItem ov iv v)
      release [v, ov, iv] []) := by intro _; rfl)
    (hs : swapsWithSole [.Subscript (.Subscript o ei p1) ej p2] ev pos.line X.env = pure false := by rfl) (hw : swappedStores [.Subscript (.Subscript o ei p1) ej p2] ev X.env = pure none := by rfl)
    (h1 : (assignEach [.Subscript (.Subscript o ei p1) ej p2] X.env).map (·.2) = [assign (.Subscript (.Subscript o ei p1) ej p2) X.env] := by rfl) : DS c X (.Assign [.Subscript (.Subscript o ei p1) ej p2] ev pos) (sPut1 i f g g2) := by
  obtain ⟨t, p, s⟩ := h.ex
  obtain ⟨ti, pi, si⟩ := hi.ex
  obtain ⟨tj, pj, sj⟩ := hj.ex
  refine ⟨_, ps_asg p (pg_sub (pe_ix ix_seq hv pi hp) pj set_list ha) hs hw h1, fun r s' Hf H L sr D q => ?_⟩
  refine s.use sr q fun x u Hf1 H1 L1 x1 sr1 a1 n1 q1 => ?_
  have x2 := x1.add n1
  have sr2 := sr.mono x2
  have a2 := (a1.argR n1).a sr1.same0
  obtain ⟨os0, v0, _, hv0, q1⟩ := onLs_of sr2 (q1.mono (addF_nw n1))
  refine ⟨v0, hv0, sIx_of si sr2 q1 fun k Hf3 H3 x3 sr3 q3 => ?_⟩
  obtain ⟨os, j, ps, eo, ek, ej, hall, q4⟩ := onOwn1_of q3
  obtain ⟨pp, vs, qq, ws, h1, h2, h3, h4, h5, h6, h7⟩ := sr3.write1 eo ej
  rw [h1] at hv0
  cases hv0
  refine rIx_own h2 h3 h4 ek (sIx_of sj sr3 q4 fun m Hf5 H5 x5 sr5 q5 => ?_)
  have a3 := RepV.mono (x3.trans x5).fsame (x3.trans x5).same _ _ a2
  cases ex : x.a with
  | ls _ => simp only [ex] at q5; exact q5.elim
  | tp _ => simp only [ex] at q5; exact q5.elim
  | fz d =>
    simp only [ex] at q5
    rw [ex] at a3
    cases et : ixN ps.length m with
    | none => simp only [et] at q5; exact q5.elim
    | some tt =>
      simp only [et] at q5
      have lv : ws.length = ps.length := RepVs.length h6
      refine ⟨qq, ws, m, tt, rfl, rfl, x5.same _ _ h5, by rw [lv]; exact et, ?_⟩
      obtain ⟨L', sr6⟩ := h7 hall Hf5 H5 (ps.set tt (.fz d)) (ws.set tt u) x5 (allFz_set hall) ((RepVs.mono x5.fsame x5.same ps ws h6).set a3)
      exact q5 _ _ _ _ (Same.refl _) sr6
end DL

namespace DL
open PySem L2
variable {c : Cn} {X : Cx} {a b e : Expr} {es : List Expr} {f g fa fb : FE} {pos : Pos} {fs : Env → Res (List O)} {K : PySem.W.Frag} {H0 H H' Hf Hf' : Hp} {F G : FS} {st : Stmt} {sts : List Stmt} {ft : Env → Res Bool}
/-! for y in x: y.append(c), x a list of one's own of lists of one's own -/
def app1O (d : D) : O → Option O
  | .ls ps => if allFz ps && decide (ps.length ≤ 100000) then some (.ls (ps ++ [.fz d])) else none
  | _ => none
def appO (d : D) : List O → Option (List O)
  | [] => some []
  | o :: os => (app1O d o).bind fun o' => (appO d os).map (o' :: ·)
theorem appO_get : ∀ {os os' : List O} {d : D} {i : Nat} {o : O}, appO d os = some os' → os[i]? = some o → ∃ ps, o = .ls ps ∧ allFz ps = true ∧ ps.length ≤ 100000 ∧ os'[i]? = some (.ls (ps ++ [.fz d]))
  | [], _, _, _, _, _, e => by simp at e
  | x :: os, os', d, i, o, h, e => by
    cases e1 : app1O d x with
    | none => simp [appO, e1] at h
    | some o1 =>
      cases e2 : appO d os with
      | none => simp [appO, e1, e2] at h
      | some r =>
        have h' : o1 :: r = os' := by simpa [appO, e1, e2] using h
        subst h'
        cases i with
        | zero =>
          have e3 : x = o := by simpa using e
          subst e3
          cases x with
          | fz _ => cases e1
          | tp _ => cases e1
          | ls ps =>
            simp only [app1O] at e1
            by_cases hc : (allFz ps && decide (ps.length ≤ 100000)) = true
            · rw [if_pos hc] at e1
              cases e1
              rw [Bool.and_eq_true, decide_eq_true_eq] at hc
              exact ⟨ps, rfl, hc.1, hc.2, rfl⟩
            · rw [if_neg hc] at e1; cases e1
        | succ i =>
          obtain ⟨ps, h1, h2, h3, h4⟩ := appO_get (i := i) e2 (by simpa using e)
          exact ⟨ps, h1, h2, h3, by simpa using h4⟩
theorem appO_len : ∀ {os os' : List O} {d : D}, appO d os = some os' → os'.length = os.length
  | [], os', d, h => by cases h; rfl
  | x :: os, os', d, h => by
    cases e1 : app1O d x with
    | none => simp [appO, e1] at h
    | some o1 =>
      cases e2 : appO d os with
      | none => simp [appO, e1, e2] at h
      | some r =>
        have h' : o1 :: r = os' := by simpa [appO, e1, e2] using h
        subst h'
        simp [appO_len e2]
/-- what is laid at a name is forgotten -/
theorem SR.forget {r : Env} {s : St} {L : List Addr} {j : Nat} {y : Option V} (sr : c.SR K r s Hf H L) (hj : r[j]? = some .un) : c.SR K r (s.set j y) Hf H L := by
  obtain ⟨z, A, M, B, h1, h2, h3, h4⟩ := sr.env.at hj
  have e := h4 Hf H .un y M (Same.refl _) (fun _ _ _ q => q) h3
  rw [← h2] at e
  have er : r.set j .un = r := by
    obtain ⟨hl, hg⟩ := List.getElem?_eq_some_iff.mp hj
    rw [← hg]; exact List.set_getElem_self hl
  rw [er] at e
  exact ⟨sr.ext, e, sr.nd, sr.fr, sr.ok⟩
def isUn : Option S → Bool
  | some .un => true
  | _ => false
theorem isUn_of {x : Option S} (h : isUn x = true) : x = some .un := by
  cases x with
  | none => cases h
  | some y => cases y with
    | un => rfl
    | vl _ _ => cases h
def sForApp (i j : Nat) (d : D) : FS := fun r => match r[i]? with
  | some (.vl true (.ls os)) => (match appO d os with
    | some os' => if i ≠ j ∧ isUn r[j]? = true then .nx (r.set i (.vl true (.ls os'))) else .bad
    | none => .bad)
  | _ => .bad
theorem so_forApp {i j : Nat} {d : D} {v : V} {ty : TE} {te : TE} (hd : ∀ H, Rep K H d v) (ht : te = tC v) (hy : ty = tVar j) :
    SoS c K (tFor (iList K (tVar i)) (gName j) (tDrop (tBM K "list" rAppend ty (tCons te tNil)))) (sForApp i j d) := fun r s Hf0 H0' L sr D q => by
  subst ht hy
  unfold sForApp at q
  split at q
  · rename_i os e
    split at q
    · rename_i os' ea
      by_cases hc : i ≠ j ∧ isUn r[j]? = true
      · rw [if_pos hc] at q
        obtain ⟨hij, hj⟩ := hc
        have hj := isUn_of hj
        obtain ⟨z, L1, M, L2, h1, h2, h3, h4⟩ := sr.env.at e
        cases z with
        | none => exact h3.elim
        | some w =>
          obtain ⟨p, vs, M', e1, e2, e3, e4⟩ := h3
          subst e1
          have lv : vs.length = os.length := RepOs.length e3
          have ln := appO_len ea
          refine ⟨.ref p, h1, p, rfl, ⟨vs, SqL.of e2⟩, ?_⟩
          refine ⟨fun n m s' H' => m = os.length - n ∧ n ≤ os.length ∧ ∃ L', c.SR K (r.set i (.vl true (.ls (os'.take n ++ os.drop n)))) s' Hf0 H' L' ∧ H' p = some (.lst vs) ∧ s'[i]? = some (some (.ref p)),
            ⟨os.length, by simp, Nat.zero_le _, L, ?_, e2, h1⟩, ?_⟩
          · simp only [List.take_zero, List.nil_append, List.drop_zero]
            have er : r.set i (.vl true (.ls os)) = r := by
              obtain ⟨hl, hg⟩ := List.getElem?_eq_some_iff.mp e
              rw [← hg]; exact List.set_getElem_self hl
            rw [er]; exact sr
          · rintro n m s' H' ⟨rfl, hn, L', sr', hp, hs'⟩
            by_cases hlt : n < os.length
            · obtain ⟨ps, g1, g2, g3, g4⟩ := appO_get (i := n) ea (List.getElem?_eq_getElem hlt)
              have hln : n < os'.length := by omega
              have hil : i < r.length := (List.getElem?_eq_some_iff.mp e).1
              have k1 : (r.set i (.vl true (.ls (os'.take n ++ os.drop n))))[i]? = some (.vl true (.ls (os'.take n ++ os.drop n))) := by simp [hil]
              have k2 : (os'.take n ++ os.drop n)[n]? = some (.ls ps) := by
                rw [List.getElem?_append_right (by rw [List.length_take]; omega), List.getElem?_drop]
                simp only [List.length_take, Nat.min_eq_left (Nat.le_of_lt hln), Nat.sub_self, Nat.add_zero]
                rw [List.getElem?_eq_getElem hlt, g1]
              obtain ⟨pp, us, qq, ws, w1, w2, w3, w4, w5, w6, w7⟩ := sr'.write1 k1 k2
              rw [w1] at hs'
              cases hs'
              rw [w2] at hp
              cases hp
              refine .inr ⟨⟨vs, .ref qq, SqL.of w2, w4⟩, fun s2 H2 => ∃ L2, c.SR K (r.set i (.vl true (.ls (os'.take (n + 1) ++ os.drop (n + 1))))) s2 Hf0 H2 L2 ∧ H2 p = some (.lst vs) ∧ s2[i]? = some (some (.ref p)),
                fun s2 H2 h => ⟨os.length - (n + 1), by omega, rfl, hlt, h⟩, fun x H3 ⟨eH, hx⟩ => ?_⟩
              subst eH
              have ex := hx vs (SqL.of w2)
              rw [w4] at ex
              cases ex
              have hjl : j < s'.length := by
                have hl2 := sr'.env.length
                have : j < r.length := (List.getElem?_eq_some_iff.mp hj).1
                rw [hl2]; simpa using this
              have lw : ws.length = ps.length := RepVs.length w6
              obtain ⟨L3, sr3⟩ := w7 g2 Hf0 H3 (ps ++ [.fz d]) (ws ++ [v]) (Ext.refl sr'.sub) (by rw [allFz_append, g2]; rfl) (w6.append (show RepVs K Hf0 H3 [.fz d] [v] from ⟨v, [], rfl, hd Hf0, rfl⟩))
              refine ⟨.ref qq, by simp [hjl], .inl ⟨rfl, ws, SqL.of w5⟩, ⟨qq, ws, v, rfl, rfl, w5, Nat.lt_of_le_of_lt (show ws.length ≤ 100000 by omega) (by decide), L3, ?_, ?_, ?_⟩⟩
              · have e5 : (r.set i (.vl true (.ls (os'.take n ++ os.drop n)))).set i (.vl true (.ls ((os'.take n ++ os.drop n).set n (.ls (ps ++ [.fz d]))))) = r.set i (.vl true (.ls (os'.take (n + 1) ++ os.drop (n + 1)))) := by
                  rw [List.set_set]
                  congr 3
                  rw [List.set_append_right _ _ (by rw [List.length_take]; omega), List.length_take, Nat.min_eq_left (Nat.le_of_lt hln), Nat.sub_self, List.drop_eq_getElem_cons hlt, List.set_cons_zero,
                    List.take_succ_eq_append_getElem hln, List.append_assoc]
                  congr 1
                  have : os'[n] = .ls (ps ++ [.fz d]) := by
                    rw [List.getElem?_eq_getElem hln] at g4
                    exact Option.some.inj g4
                  rw [this]; rfl
                rw [e5] at sr3
                exact sr3.forget (by rw [List.getElem?_set_ne hij]; exact hj)
              · have hpq : p ≠ qq := fun z => by
                  subst z
                  have nd := sr'.nd
                  obtain ⟨z2, A, M2, B, b1, b2, b3, b4⟩ := sr'.env.at k1
                  rw [w1] at b1
                  cases b1
                  obtain ⟨p2, vs2, M3, c1, c2, c3, c4⟩ := b3
                  cases c1
                  obtain ⟨w8, A2, N2, B2, d1, d2, d3, d4⟩ := RepOs.at c3 k2
                  rw [w2] at c2
                  cases c2
                  rw [w4] at d1
                  cases d1
                  obtain ⟨q3, ws3, N3, f1, f2, f3, f4⟩ := d3
                  cases f1
                  rw [b2, c4, d2, f4] at nd
                  simp [List.nodup_append] at nd
                rw [upd_ne hpq]; exact w2
              · rw [List.getElem?_set_ne (Ne.symm hij)]; exact w1
            · have en : n = os.length := by omega
              subst en
              rw [List.take_of_length_le (by omega), List.drop_length, List.append_nil] at sr'
              exact .inl ⟨⟨vs, SqL.of hp, by omega⟩, q s' Hf0 H' L' (Same.refl _) sr'⟩
      · rw [if_neg hc] at q; exact q.elim
    · exact q.elim
  · exact q.elim
theorem ds_forApp {k i j : Nat} {d : D} {v : V} {tg it o ev : Expr} {apos cpos p1 : Pos} (B : Bk c X k) (hv : PE X it (tVar i)) (hg : PG X tg (gName j)) (hy : PE X o (tVar j)) (he : PE X ev (tC v)) (hd : ∀ H, Rep X.K H d v)
    (hs : ∀ x, foldedSetIterable it X.env x = pure x := by intro _; rfl)
    (hbase : attributeBase o "append" X.env (eval o X.env) = eval o X.env := by rfl)
    (hfew : ((backTo cpos (starEach [ev] X.env)).all (fun x => !x.1) && (backToKw cpos (keywordEach [] X.env)).all (fun x => x.1.isSome)
      && decide (([ev] : List Expr).length + ([] : List Keyword).length + (if ([] : List Keyword).isEmpty then 0 else 1) < 30)) = true := by rfl)
    (hline : (apos.endLine == cpos.line) = true := by rfl) (hst : starEach [ev] X.env = (false, eval ev X.env) :: starEach [] X.env := by rfl) (hplain : (backTo cpos (starEach [] X.env)).any (·.1) = false := by rfl)
    (hsw : swapsWith (.Call (.Attribute o "append" apos) [ev] [] cpos) none p1.line X.env = pure false := by rfl) :
    DS c X (.For tg it [.Expr (.Call (.Attribute o "append" apos) [ev] [] cpos) p1] [] pos) (sForApp i j d) :=
  ⟨_, ps_for B.po B.calm (pi_list hv) hg (pss_one (ps_expr (pe_bm PySem.F.plainAttrs_list PySem.F.slot_list_append PySem.F.type_list_append mt_append hy (pa_cons he pa_nil hst) hbase hfew hline hst hplain) hsw)) hs, so_forApp hd rfl rfl⟩
end DL

namespace DL
open PySem L2
variable {c : Cn} {X : Cx} {a b e : Expr} {es : List Expr} {f g fa fb : FE} {pos : Pos} {fs : Env → Res (List O)} {K : PySem.W.Frag} {H0 H H' Hf Hf' : Hp} {F G : FS} {st : Stmt} {sts : List Stmt} {ft : Env → Res Bool}
/-! a call that hands back a number, a truth, a text or None: for the callee all that is handed in is frozen -/
def isGr : O → Bool
  | .fz .non => true
  | .fz (.bl _) => true
  | .fz (.int _) => true
  | .fz (.str _) => true
  | _ => false
theorem isGr_rep {o : O} {v : V} {L : List Addr} (h : isGr o = true) (r : RepO K Hf H o v L) (Hf2 H2 : Hp) : RepO K Hf2 H2 o v L := by
  cases o with
  | ls _ => cases h
  | tp _ => cases h
  | fz d =>
    obtain ⟨r1, r2⟩ := r
    cases d with
    | non => exact ⟨r1, r2⟩
    | bl b => exact ⟨r1, r2⟩
    | int b => exact ⟨r1, r2⟩
    | str b => exact ⟨r1, r2⟩
    | _ => cases h
def frz (o : O) : O := .fz (er o)
def resZ : Res O → Res R
  | .ok o => if isGr o then .ok (.nw o) else .bad
  | .exc e => if e.fs.isEmpty then .exc e else .bad
  | .bad => .bad
def eCallZ (M : List O → Res O) (fs : Env → Res (List O)) : FE := fun r => (fs r).bind fun os => resZ (M (os.map frz))
theorem repVs_frz (s : Same Hf H) {os : List O} {vs : List V} (h : RepVs K Hf H os vs) : RepVs K H H (os.map frz) vs := by
  have h1 := reps_fz (H := H) (RepVs.rep s os vs h)
  rw [ers_eq, List.map_map] at h1
  exact h1
theorem de_callZ {x : Str} {p : Pos} {j k n : Nat} {M : List O → Res O} (G : Def X.prog X.w X.K X.mg X.base x j n M) (B : Bk c X k) (hj : j ≤ k) (hg : Gl X x) (h : DA c X (e :: es) fs) (hl : (e :: es).length = n)
    (hdb : (x == ("__debug__" : Str)) = false := by decide) (he : starEach (e :: es) X.env = (false, eval e X.env) :: starEach es X.env := by rfl) (hpl : (backTo pos (starEach es X.env)).any (·.1) = false := by rfl)
    (hlen : ∀ r os, fs r = .ok os → os.length = n) : DE c X (.Call (.Name x p) (e :: es) [] pos) (eCallZ M fs) := by
  obtain ⟨fa, fd, ps, Fo, hm, hk, hb, hn⟩ := G.ex
  obtain ⟨t, pa, s⟩ := h.ex
  refine ⟨tCallS (spD X.K n M) (WE c.W) t, pe_callS Fo (B.hr.mono hj) hg hm hk hb (fun σ => passAt B.tk σ) pa hdb he hpl, fun r s' Hf H L sr Q q => ?_⟩
  refine s r s' Hf H L sr _ ?_
  cases e0 : fs r with
  | bad => simp only [eCallZ, e0, Res.bind] at q; exact q.elim
  | exc e' => simp only [eCallZ, e0, Res.bind] at q; exact q
  | ok os =>
    simp only [eCallZ, e0, Res.bind] at q
    intro vs Hf1 H1 x1 a1
    have back : ∀ {Hf2 H2 : Hp}, Ext H1 H1 Hf2 H2 → Ext Hf H Hf1 H2 := fun x2 => ⟨x1.same.trans x2.same, x1.fsame, x1.sub.trans x2.same, x1.keep⟩
    refine ⟨H1, os.map frz, Same.refl _, repVs_frz x1.sub a1, by rw [List.length_map]; exact hlen r os e0, ?_⟩
    cases e1 : M (os.map frz) with
    | bad => rw [e1] at q; exact q.elim
    | exc e' =>
      rw [e1] at q
      intro cls d Hf2 H2 x2 h2
      by_cases hf : e'.fs.isEmpty = true
      · simp only [resZ, if_pos hf] at q
        refine q cls d Hf1 H2 (back x2) ?_
        obtain ⟨C, c1, c2, c3⟩ := h2
        refine ⟨C, c1, c2, ?_⟩
        cases d with
        | none => exact c3
        | some a => exact absurd (List.isEmpty_iff.mp hf) c3.1
      · simp only [resZ, if_neg hf] at q; exact q.elim
    | ok o =>
      rw [e1] at q
      intro v Hf2 H2 L2 x2 h2 n2
      by_cases hgr : isGr o = true
      · simp only [resZ, if_pos hgr] at q
        have h3 := isGr_rep hgr h2 Hf1 H2
        have hL : L2 = [] := by
          cases o with
          | ls _ => cases hgr
          | tp _ => cases hgr
          | fz d => exact h2.2
        subst hL
        exact q v Hf1 H2 [] (back x2) h3 nw_nil
      · simp only [resZ, if_neg hgr] at q; exact q.elim
theorem callZ_ok {M : List O → Res O} {fs : Env → Res (List O)} {r : Env} {os : List O} {o : O} (h : fs r = .ok os) (h2 : M (os.map frz) = .ok o) (h3 : isGr o = true) : eCallZ M fs r = .ok (.nw o) := by
  simp only [eCallZ, h, Res.bind, h2, resZ, if_pos h3]
theorem callZ_exc {M : List O → Res O} {fs : Env → Res (List O)} {r : Env} {os : List O} {x : Str} (h : fs r = .ok os) (h2 : M (os.map frz) = .exc ⟨x, []⟩) : eCallZ M fs r = .exc ⟨x, []⟩ := by
  simp only [eCallZ, h, Res.bind, h2, resZ]; rfl
@[simp] theorem frz_fz (d : D) : frz (.fz d) = .fz d := (rfl)
theorem callZ1 {M : List O → Res O} {f : FE} {r : Env} {x : R} {o : O} (h : f r = .ok x) (hm : M [frz x.a] = .ok o) (h3 : isGr o = true) : eCallZ M (aCons f aNil) r = .ok (.nw o) :=
  callZ_ok (os := [x.a]) (by rw [aCons_ev, h]; rfl) hm h3
theorem callZ2 {M : List O → Res O} {f g : FE} {r : Env} {x y : R} {o : O} (h : f r = .ok x) (h2 : g r = .ok y) (hm : M [frz x.a, frz y.a] = .ok o) (h3 : isGr o = true) : eCallZ M (aCons f (aCons g aNil)) r = .ok (.nw o) :=
  callZ_ok (os := [x.a, y.a]) (by rw [aCons_ev, h, aCons_ev, h2]; rfl) hm h3
theorem callZ3 {M : List O → Res O} {f g k : FE} {r : Env} {x y z : R} {o : O} (h : f r = .ok x) (h2 : g r = .ok y) (h4 : k r = .ok z) (hm : M [frz x.a, frz y.a, frz z.a] = .ok o) (h3 : isGr o = true) : eCallZ M (aCons f (aCons g (aCons k aNil))) r = .ok (.nw o) :=
  callZ_ok (os := [x.a, y.a, z.a]) (by rw [aCons_ev, h, aCons_ev, h2, aCons_ev, h4]; rfl) hm h3
/-! a new value frozen at once -/
def eFz (f : FE) : FE := fun r => (f r).bind fun x => match x with
  | .nw o => .ok (.nw (.fz (er o)))
  | x => .ok x
theorem de_fz (h : DE c X e f) : DE c X e (eFz f) := by
  obtain ⟨t, p, s⟩ := h.ex
  refine ⟨t, p, fun r s' Hf H L sr Q q => s r s' Hf H L sr Q ?_⟩
  cases e0 : f r with
  | bad => simp only [eFz, e0, Res.bind] at q; exact q
  | exc e' => simp only [eFz, e0, Res.bind] at q; exact q
  | ok x =>
    cases x with
    | vw o => simp only [eFz, e0, Res.bind] at q; exact q
    | bw o => simp only [eFz, e0, Res.bind] at q; exact q
    | nw o =>
      simp only [eFz, e0, Res.bind] at q
      intro v Hf' H' L' x1 h1 n1
      exact q v (addF Hf' H' L') H' [] (x1.add n1) ⟨RepO.frozen _ (addF_nw n1) o v L' (fun a ha => addF_in ha) h1, rfl⟩ nw_nil
theorem fz_ev {r : Env} {o : O} (h : f r = .ok (.nw o)) : eFz f r = .ok (.nw (.fz (er o))) := by
  simp only [eFz, h, Res.bind]
/-! a list display whose new items stay one's own -/
def PostAO (c : Cn) (K : PySem.W.Frag) (s : St) (Hf H : Hp) (Q : List V → Hp → Prop) : Res (List O) → Prop
  | .ok os => ∀ vs Hf' H' L, Ext Hf H Hf' H' → RepOs K Hf' H' os vs L → Nw H Hf' H' L → Q vs H'
  | .exc e => PostX c K s Hf H e
  | .bad => False
def SoAO (c : Cn) (K : PySem.W.Frag) (t : TA) (f : Env → Res (List O)) : Prop := ∀ r s Hf H L, c.SR K r s Hf H L → ∀ Q, PostAO c K s Hf H Q (f r) → t s H Q
structure DAO (c : Cn) (X : Cx) (e : List Expr) (f : Env → Res (List O)) : Prop where
  ex : ∃ t, PA X e t ∧ SoAO c X.K t f
def aNilO : Env → Res (List O) := fun _ => .ok []
def aConsO (f : FE) (fs : Env → Res (List O)) : Env → Res (List O) := fun r => (f r).bind fun x => (fs r).bind fun xs => match newO x with
  | some o => .ok (o :: xs)
  | none => .bad
theorem dao_nil : DAO c X [] aNilO := ⟨tNil, pa_nil, fun r s Hf H L sr Q q => q [] Hf H [] (Ext.refl sr.sub) ⟨rfl, rfl⟩ nw_nil⟩
theorem PostX.mono2 {s : St} {Hf1 H1 : Hp} {e : Ec} (x : Ext Hf H Hf1 H1) (h : PostX c K s Hf H e) : PostX c K s Hf1 H1 e := fun cls d Hf' H' x2 h2 => h cls d Hf' H' (x.trans x2) h2
theorem dao_cons (h : DE c X e f) (hs : DAO c X es fs) (hst : starEach (e :: es) X.env = (false, eval e X.env) :: starEach es X.env := by rfl) : DAO c X (e :: es) (aConsO f fs) := by
  obtain ⟨t, p, s⟩ := h.ex
  obtain ⟨ts, ps, ss⟩ := hs.ex
  refine ⟨tCons t ts, pa_cons p ps hst, fun r s' Hf H L sr Q q => ?_⟩
  refine s r s' Hf H L sr _ ?_
  cases e0 : f r with
  | bad => simp only [aConsO, e0, Res.bind] at q; exact q.elim
  | exc e' => simp only [aConsO, e0, Res.bind] at q; exact q
  | ok x =>
    simp only [aConsO, e0, Res.bind] at q
    intro v Hf1 H1 L1 x1 h1 n1
    refine ss r s' Hf1 H1 L (sr.mono x1) _ ?_
    cases e1 : fs r with
    | bad => simp only [e1] at q; exact q.elim
    | exc e' => simp only [e1] at q; exact PostX.mono2 x1 q
    | ok xs =>
      simp only [e1] at q
      intro vs Hf2 H2 L2 x2 h2 n2
      cases x with
      | vw o => exact q.elim
      | bw o => exact q.elim
      | nw o =>
        refine q (v :: vs) Hf2 H2 (L1 ++ L2) (x1.trans x2) ⟨v, vs, L1, L2, rfl, rfl, RepO.mono x2.fsame o v L1 (fun a _ u q => x2.same a u q) h1, h2⟩ ⟨?_, fun a ha => ?_⟩
        · rw [List.nodup_append]
          refine ⟨n1.nd, n2.nd, fun a ha b hb z => ?_⟩
          subst z
          exact (n1.fr a ha).2.2 (n2.fr a hb).1
        · rcases List.mem_append.mp ha with h | h
          · obtain ⟨k1, k2, k3⟩ := n1.fr a h
            exact ⟨k1, x2.nf k3 k2, ne_none_of x2.same k3⟩
          · obtain ⟨k1, k2, k3⟩ := n2.fr a h
            exact ⟨x1.same.free k1, k2, k3⟩
def eLstO (fs : Env → Res (List O)) : FE := fun r => (fs r).bind fun os => if os.length ≤ 1000 then .ok (.nw (.ls os)) else .bad
theorem de_lstO (h : DAO c X es fs) : DE c X (.List es pos) (eLstO fs) := by
  obtain ⟨t, p, s⟩ := h.ex
  refine ⟨tLst t, pe_lst p, fun r s' Hf H L sr Q q => ?_⟩
  refine s r s' Hf H L sr _ ?_
  cases e0 : fs r with
  | bad => simp only [eLstO, e0, Res.bind] at q; exact q.elim
  | exc e' => simp only [eLstO, e0, Res.bind] at q; exact q
  | ok os =>
    simp only [eLstO, e0, Res.bind] at q
    intro vs Hf1 H1 L1 x1 h1 n1
    by_cases hc : os.length ≤ 1000
    · rw [if_pos hc] at q
      refine ⟨by rw [RepOs.length h1]; exact Nat.le_trans hc (by decide), fun p hp => ?_⟩
      have x2 : Ext Hf1 H1 Hf1 (upd H1 p (.lst vs)) := Ext.new x1.sub hp
      refine q (.ref p) Hf1 _ (p :: L1) (x1.trans x2) ⟨p, vs, L1, rfl, upd_same, RepOs.mono (Same.refl _) os vs L1 (fun a _ u e => x2.same a u e) h1, rfl⟩ ⟨?_, fun a ha => ?_⟩
      · refine List.nodup_cons.mpr ⟨fun z => (n1.fr p z).2.2 hp, n1.nd⟩
      · rcases List.mem_cons.mp ha with h | h
        · subst h
          exact ⟨x1.same.free hp, sub_none x1.sub hp, by rw [upd_same]; simp⟩
        · obtain ⟨k1, k2, k3⟩ := n1.fr a h
          exact ⟨k1, k2, ne_none_of x2.same k3⟩
    · rw [if_neg hc] at q; exact q.elim
end DL

namespace DL
open PySem L2
variable {c : Cn} {X : Cx} {a b e : Expr} {es : List Expr} {f g fa fb : FE} {pos : Pos} {fs : Env → Res (List O)} {K : PySem.W.Frag} {H0 H H' Hf Hf' : Hp} {F G : FS} {st : Stmt} {sts : List Stmt} {ft : Env → Res Bool}
/-! tuples of one's own: what they hold is changed -/
/-- the list at place j of the list at a name gets other items -/
theorem SR.write1T {r : Env} {s : St} {L : List Addr} {i j : Nat} {os ps : List O} (sr : c.SR K r s Hf H L) (e : r[i]? = some (.vl true (.tp os))) (ej : os[j]? = some (.ls ps)) :
    ∃ p vs q ws, s[i]? = some (some (.ref p)) ∧ H p = some (.tup vs) ∧ vs.length = os.length ∧ vs[j]? = some (.ref q) ∧ H q = some (.lst ws) ∧ RepVs K Hf H ps ws ∧
      (allFz ps = true → ∀ Hf1 H1 ps' ws', Ext Hf H Hf1 H1 → allFz ps' = true → RepVs K Hf1 H1 ps' ws' → ∃ L', c.SR K (r.set i (.vl true (.tp (os.set j (.ls ps'))))) s Hf1 (upd H1 q (.lst ws')) L') := by
  obtain ⟨z, L1, M, L2, h1, h2, h3, h4⟩ := sr.env.at e
  cases z with
  | none => exact h3.elim
  | some v =>
    obtain ⟨p, vs, M', e1, e2, e3, e4⟩ := h3
    subst e1 e4
    obtain ⟨w, A, N, B, g1, g2, g3, g4⟩ := RepOs.at e3 ej
    obtain ⟨q, ws, N', k1, k2, k3, k4⟩ := g3
    subst k1 k4 g2
    have hqL : q ∈ L := by rw [h2]; simp
    have hpL : p ∈ L := by rw [h2]; simp
    refine ⟨p, vs, q, ws, h1, e2, RepOs.length e3, g1, k2, RepOs.view ps ws N' k3, fun hall Hf1 H1 ps' ws' x1 hall' rv' => ?_⟩
    have sr1 := sr.mono x1
    have nd := sr.nd
    rw [h2] at nd
    have nd' : (L1 ++ (p :: (A ++ (q :: N') ++ B)) ++ L2).Nodup := nd
    have nd2 : ((L1 ++ p :: A) ++ q :: (N' ++ (B ++ L2))).Nodup := by simpa [List.append_assoc] using nd'
    have nq := (List.nodup_cons.mp (List.perm_middle.nodup_iff.mp nd2)).1
    have qn : ∀ a ∈ L1 ++ [p] ++ A ++ B ++ L2, a ≠ q := fun a ha e => by
      subst e
      refine nq ?_
      simp only [List.mem_append, List.mem_cons, List.mem_singleton, List.not_mem_nil, or_false] at ha ⊢
      rcases ha with (((h | h) | h) | h) | h <;> simp [h]
    have rq : RepO K Hf1 (upd H1 q (.lst ws')) (.ls ps') (.ref q) [q] := ⟨q, ws', [], rfl, upd_same, repVs_O hall' rv', rfl⟩
    have in1 := g4 Hf1 (upd H1 q (.lst ws')) (.ls ps') [q] x1.fsame (fun a ha u qq => by
      rw [upd_ne (qn a (by simp only [List.mem_append] at ha ⊢; rcases ha with ha | ha <;> simp [ha]))]; exact x1.same a u qq) rq
    have rp : RepO K Hf1 (upd H1 q (.lst ws')) (.tp (os.set j (.ls ps'))) (.ref p) (p :: (A ++ [q] ++ B)) :=
      ⟨p, vs, A ++ [q] ++ B, rfl, by rw [upd_ne (qn p (by simp))]; exact x1.same _ _ e2, in1, rfl⟩
    have env' := h4 Hf1 (upd H1 q (.lst ws')) (.vl true (.tp (os.set j (.ls ps')))) (some (.ref p)) _ x1.fsame (fun a ha u qq => by
      rw [upd_ne (qn a (by simp only [List.mem_append] at ha ⊢; rcases ha with ha | ha <;> simp [ha]))]; exact x1.same a u qq) rp
    have es : s.set i (some (V.ref p)) = s := by
      obtain ⟨hl, hg⟩ := List.getElem?_eq_some_iff.mp h1
      rw [← hg]; exact List.set_getElem_self hl
    rw [es] at env'
    have hqf := (sr1.fr q hqL).1
    have hq0 := (sr.fr q hqL).2
    have sub' : ∀ a ∈ L1 ++ (p :: (A ++ [q] ++ B)) ++ L2, a ∈ L := fun a ha => by
      rw [h2]; simp only [List.mem_append, List.mem_cons, List.mem_singleton, List.not_mem_nil, or_false] at ha ⊢
      rcases ha with (h | h | (h | h) | h) | h <;> simp [h]
    refine ⟨_, ⟨?_, ?_, ?_, ?_⟩, env', ?_, fun a ha => ⟨(sr1.fr a (sub' a ha)).1, (sr1.fr a (sub' a ha)).2⟩, fun a ha => ?_⟩
    · exact fun a u qq => by rw [upd_ne (ne_of_none qq hq0)]; exact sr1.ext.same a u qq
    · exact sr1.ext.fsame
    · exact fun a u qq => by rw [upd_ne (ne_of_none qq hqf)]; exact sr1.ext.sub a u qq
    · exact sr1.ext.keep
    · refine nd2.sublist ?_
      have e1 : L1 ++ (p :: (A ++ [q] ++ B)) ++ L2 = (L1 ++ p :: A) ++ q :: (B ++ L2) := by simp [List.append_assoc]
      rw [e1]
      exact (List.Sublist.refl _).append (List.Sublist.cons_cons q (List.sublist_append_right N' (B ++ L2)))
    · by_cases hp : a = q
      · subst hp; rw [upd_same]; simp
      · rw [upd_ne hp]; exact sr1.ok a (sub' a ha)
/-- place k of the list of one's own at i: a list of one's own -/
def onOwn1T (i : Nat) (k : Int) (r : Env) (kk : List O → Nat → List O → Out) : Out := match r[i]? with
  | some (.vl true (.tp os)) => (match ixN os.length k with
    | some j => (match os[j]? with
      | some (.ls ps) => if allFz ps then kk os j ps else .bad
      | _ => .bad)
    | none => .bad)
  | _ => .bad
theorem onOwn1T_of {i : Nat} {k : Int} {r : Env} {kk : List O → Nat → List O → Out} {D : Ends} {G : Hp} (q : PostS c K G D (onOwn1T i k r kk)) :
    ∃ os j ps, r[i]? = some (.vl true (.tp os)) ∧ ixN os.length k = some j ∧ os[j]? = some (.ls ps) ∧ allFz ps = true ∧ PostS c K G D (kk os j ps) := by
  unfold onOwn1T at q
  split at q
  · rename_i os e
    split at q
    · rename_i j ej
      split at q
      · rename_i ps ep
        by_cases h : allFz ps = true
        · rw [if_pos h] at q; exact ⟨os, j, ps, e, ej, ep, h, q⟩
        · rw [if_neg h] at q; exact q.elim
      · exact q.elim
    · exact q.elim
  · exact q.elim
/-- x[g] read as an address -/
theorem rIx_ownT {j : Nat} {k : Int} {os : List O} {p : Addr} {vs : List V} {q : Addr} {Q : VK} (h2 : H p = some (.tup vs)) (hl : vs.length = os.length) (h3 : vs[j]? = some (.ref q)) (ek : ixN os.length k = some j) (h : Q (.ref q) H) : rIx K (.ref p) (.int k) H Q :=
  .inr (.inl ⟨p, vs, k, .ref q, rfl, rfl, SqT.of h2, by unfold atI; rw [hl, ek]; exact h3, h⟩)
/-- the slot holds a list of one's own -/
def onTp (i : Nat) (F : FS) : FS := fun r => match r[i]? with
  | some (.vl true (.tp _)) => F r
  | _ => .bad
theorem onTp_of {i : Nat} {r : Env} {s : St} {L : List Addr} {D : Ends} {G : Hp} (sr : c.SR K r s Hf H L) (q : PostS c K G D (onTp i F r)) : ∃ os v, r[i]? = some (.vl true (.tp os)) ∧ s[i]? = some (some v) ∧ PostS c K G D (F r) := by
  unfold onTp at q
  split at q
  · rename_i os e
    obtain ⟨v, h, _⟩ := sr.slot e
    exact ⟨os, v, e, h, q⟩
  · exact q.elim
/-- x[g].append(f) -/
def sApp1T (i : Nat) (g f : FE) : FS := onTp i (sIx g fun k r => onOwn1T i k r fun os j ps => sUse f (fun x r => match x.a with
    | .fz d => if ps.length ≤ 100000 then .nx (r.set i (.vl true (.tp (os.set j (.ls (ps ++ [.fz d])))))) else .bad
    | .ls _ => .bad
    | .tp _ => .bad) r)
theorem ds_app1T {i : Nat} {o ei : Expr} {p1 apos cpos : Pos} (hv : PE X o (tVar i)) (hi : DE c X ei g) (h : DE c X e f) (hp : PlainIx ei := by exact fun _ _ => rfl)
    (hbase : attributeBase (.Subscript o ei p1) "append" X.env (eval (.Subscript o ei p1) X.env) = eval (.Subscript o ei p1) X.env := by rfl)
    (hfew : ((backTo cpos (starEach [e] X.env)).all (fun x => !x.1) && (backToKw cpos (keywordEach [] X.env)).all (fun x => x.1.isSome)
      && decide (([e] : List Expr).length + ([] : List Keyword).length + (if ([] : List Keyword).isEmpty then 0 else 1) < 30)) = true := by rfl)
    (hline : (apos.endLine == cpos.line) = true := by rfl) (hs : starEach [e] X.env = (false, eval e X.env) :: starEach [] X.env := by rfl) (hplain : (backTo cpos (starEach [] X.env)).any (·.1) = false := by rfl)
    (hsw : swapsWith (.Call (.Attribute (.Subscript o ei p1) "append" apos) [e] [] cpos) none pos.line X.env = pure false := by rfl) : DS c X (.Expr (.Call (.Attribute (.Subscript o ei p1) "append" apos) [e] [] cpos) pos) (sApp1T i g f) := by
  obtain ⟨t, p, s⟩ := h.ex
  obtain ⟨ti, pi, si⟩ := hi.ex
  refine ⟨_, ps_expr (pe_bm PySem.F.plainAttrs_list PySem.F.slot_list_append PySem.F.type_list_append mt_append (pe_ix ix_seq hv pi hp) (pa_cons p pa_nil hs) hbase hfew hline hs hplain) hsw, fun r s' Hf H L sr D q => ?_⟩
  obtain ⟨os0, v0, _, hv0, q⟩ := onTp_of sr q
  refine ⟨v0, hv0, sIx_of si sr q fun k Hf1 H1 x1 sr1 q1 => ?_⟩
  obtain ⟨os, j, ps, eo, ek, ej, hall, q2⟩ := onOwn1T_of q1
  obtain ⟨pp, vs, qq, ws, h1, h2, h3, h4, h5, h6, h7⟩ := sr1.write1T eo ej
  rw [h1] at hv0
  cases hv0
  refine rIx_ownT h2 h3 h4 ek ⟨.inl ⟨rfl, ws, SqL.of h5⟩, ?_⟩
  refine s.use sr1 q2 fun x u Hf2 H2 L1 x2 sr2 a1 n1 q3 => ?_
  have a2 := (a1.argR n1).a sr2.same0
  have x3 := x2.add n1
  cases ex : x.a with
  | ls _ => simp only [ex] at q3; exact q3.elim
  | tp _ => simp only [ex] at q3; exact q3.elim
  | fz d =>
    simp only [ex] at q3
    rw [ex] at a2
    by_cases hl : ps.length ≤ 100000
    · rw [if_pos hl] at q3
      have lv : ws.length = ps.length := RepVs.length h6
      refine ⟨qq, ws, u, rfl, rfl, x2.same _ _ h5, Nat.lt_of_le_of_lt (show ws.length ≤ 100000 by omega) (by decide), ?_⟩
      obtain ⟨L', sr3⟩ := h7 hall (addF Hf2 H2 L1) H2 (ps ++ [.fz d]) (ws ++ [u]) x3 (by rw [allFz_append, hall]; rfl) ((RepVs.mono x3.fsame x3.same ps ws h6).append ⟨u, [], rfl, a2, rfl⟩)
      exact q3 _ _ _ _ (addF_nw n1) sr3
    · rw [if_neg hl] at q3; exact q3.elim
/-! a tuple is handed back: names given away, and new things -/
def PostAR (c : Cn) (K : PySem.W.Frag) (s : St) (L : List Addr) (Hf H : Hp) (Q : List V → Hp → Prop) : Res (List O) → Prop
  | .ok os => ∀ vs Hf' H' M, Ext Hf H Hf' H' → RepOs K Hf' H' os vs M → M.Nodup → (∀ a ∈ M, (a ∈ L ∨ H a = none) ∧ Hf' a = none ∧ c.H0 a = none ∧ H' a ≠ none) → Q vs H'
  | .exc e => PostX c K s Hf H e
  | .bad => False
def SoAR (c : Cn) (K : PySem.W.Frag) (t : TA) (f : Env → Res (List O)) : Prop := ∀ r s Hf H L, c.SR K r s Hf H L → ∀ Q, PostAR c K s L Hf H Q (f r) → t s H Q
structure DAR (c : Cn) (X : Cx) (e : List Expr) (f : Env → Res (List O)) : Prop where
  ex : ∃ t, PA X e t ∧ SoAR c X.K t f
def aMv (i : Nat) (fs : Env → Res (List O)) : Env → Res (List O) := fun r => match r[i]? with
  | some (.vl true o) => (fs (r.set i .un)).bind fun xs => .ok (o :: xs)
  | _ => .bad
def aNew (f : FE) (fs : Env → Res (List O)) : Env → Res (List O) := fun r => (f r).bind fun x => (fs r).bind fun xs => match newO x with
  | some o => .ok (o :: xs)
  | none => .bad
theorem dar_nil : DAR c X [] aNilO := ⟨tNil, pa_nil, fun r s Hf H L sr Q q => q [] Hf H [] (Ext.refl sr.sub) ⟨rfl, rfl⟩ List.nodup_nil fun _ h => nomatch h⟩
theorem dar_mv {i : Nat} (h : PE X e (tVar i)) (hs : DAR c X es fs) (hst : starEach (e :: es) X.env = (false, eval e X.env) :: starEach es X.env := by rfl) : DAR c X (e :: es) (aMv i fs) := by
  obtain ⟨ts, ps, ss⟩ := hs.ex
  refine ⟨tCons (tVar i) ts, pa_cons h ps hst, fun r s Hf H L sr Q q => ?_⟩
  unfold aMv at q
  split at q
  · rename_i o er1
    obtain ⟨y, L1, M, L2, h1, h2, h3, h4⟩ := sr.env.at er1
    cases y with
    | none => exact h3.elim
    | some v =>
      refine ⟨v, h1, ?_⟩
      have h3' : RepO X.K Hf H o v M := h3
      have nd := sr.nd
      rw [h2] at nd
      have hsub : ∀ a ∈ L1 ++ [] ++ L2, a ∈ L := fun a ha => by
        rw [h2]; simp only [List.mem_append, List.not_mem_nil, or_false] at ha ⊢
        rcases ha with h | h <;> simp [h]
      have env' := h4 Hf H .un (some v) [] (Same.refl _) (fun _ _ _ e => e) rfl
      have es' : s.set i (some v) = s := by
        obtain ⟨hl, hg⟩ := List.getElem?_eq_some_iff.mp h1
        rw [← hg]; exact List.set_getElem_self hl
      rw [es'] at env'
      have sr' : c.SR X.K (r.set i .un) s Hf H (L1 ++ [] ++ L2) := ⟨sr.ext, env', by
        simp only [List.nodup_append, List.mem_append] at nd
        simp only [List.append_nil, List.nodup_append]
        obtain ⟨⟨n1, n2, d1⟩, n3, d2⟩ := nd
        exact ⟨n1, n3, fun a ha b hb => d2 a (.inl ha) b hb⟩, fun a ha => sr.fr a (hsub a ha), fun a ha => sr.ok a (hsub a ha)⟩
      refine ss _ s Hf H _ sr' _ ?_
      cases e1 : fs (r.set i .un) with
      | bad => simp only [e1, Res.bind] at q; exact q.elim
      | exc e' => simp only [e1, Res.bind] at q; exact q
      | ok xs =>
        simp only [e1, Res.bind] at q
        intro vs Hf2 H2 M2 x2 r2 nd2 k2
        have hM : ∀ a ∈ M, a ∈ L := fun a ha => by rw [h2]; simp [ha]
        refine q (v :: vs) Hf2 H2 (M ++ M2) x2 ⟨v, vs, M, M2, rfl, rfl, RepO.mono x2.fsame o v M (fun a _ u q => x2.same a u q) h3', r2⟩ ?_ fun a ha => ?_
        · rw [List.nodup_append]
          refine ⟨?_, nd2, fun a ha b hb z => ?_⟩
          · simp only [List.nodup_append] at nd
            exact nd.1.2.1
          · subst z
            rcases (k2 a hb).1 with h | h
            · simp only [List.nodup_append, List.mem_append] at nd
              obtain ⟨⟨n1, n2, d1⟩, n3, d2⟩ := nd
              simp only [List.append_nil, List.mem_append] at h
              rcases h with h | h
              · exact d1 a h a ha rfl
              · exact d2 a (.inr ha) a h rfl
            · exact sr.ok a (hM a ha) h
        · rcases List.mem_append.mp ha with h | h
          · exact ⟨.inl (hM a h), x2.nf (sr.ok a (hM a h)) (sr.fr a (hM a h)).1, (sr.fr a (hM a h)).2, ne_none_of x2.same (sr.ok a (hM a h))⟩
          · obtain ⟨k1, k3⟩ := k2 a h
            exact ⟨k1.imp_left (hsub a), k3⟩
  · exact q.elim
theorem dar_new (h : DE c X e f) (hs : DAR c X es fs) (hst : starEach (e :: es) X.env = (false, eval e X.env) :: starEach es X.env := by rfl) : DAR c X (e :: es) (aNew f fs) := by
  obtain ⟨t, p, s⟩ := h.ex
  obtain ⟨ts, ps, ss⟩ := hs.ex
  refine ⟨tCons t ts, pa_cons p ps hst, fun r s' Hf H L sr Q q => ?_⟩
  refine s r s' Hf H L sr _ ?_
  cases e0 : f r with
  | bad => simp only [aNew, e0, Res.bind] at q; exact q.elim
  | exc e' => simp only [aNew, e0, Res.bind] at q; exact q
  | ok x =>
    simp only [aNew, e0, Res.bind] at q
    intro v Hf1 H1 L1 x1 h1 n1
    refine ss r s' Hf1 H1 L (sr.mono x1) _ ?_
    cases e1 : fs r with
    | bad => simp only [e1] at q; exact q.elim
    | exc e' => simp only [e1] at q; exact PostX.mono2 x1 q
    | ok xs =>
      simp only [e1] at q
      intro vs Hf2 H2 M2 x2 h2 nd2 k2
      cases x with
      | vw o => exact q.elim
      | bw o => exact q.elim
      | nw o =>
        refine q (v :: vs) Hf2 H2 (L1 ++ M2) (x1.trans x2) ⟨v, vs, L1, M2, rfl, rfl, RepO.mono x2.fsame o v L1 (fun a _ u q => x2.same a u q) h1, h2⟩ ?_ fun a ha => ?_
        · rw [List.nodup_append]
          refine ⟨n1.nd, nd2, fun a ha b hb z => ?_⟩
          subst z
          obtain ⟨g1, g2, g3⟩ := n1.fr a ha
          rcases (k2 a hb).1 with h | h
          · exact sr.ok a h g1
          · exact g3 h
        · rcases List.mem_append.mp ha with h | h
          · obtain ⟨g1, g2, g3⟩ := n1.fr a h
            exact ⟨.inr g1, x2.nf g3 g2, sr.ext.same.free g1, ne_none_of x2.same g3⟩
          · obtain ⟨k1, k3⟩ := k2 a h
            exact ⟨k1.imp_right fun z => x1.same.free z, k3⟩
def sRetT (fs : Env → Res (List O)) : FS := fun r => match fs r with
  | .ok os => if os.length ≤ 1000 then .ret (.tp os) else .bad
  | .exc e => .exc e r
  | .bad => .bad
theorem ds_retT {k} {tpos : Pos} (h : DAR c X es fs) : DS c X (.Return (some (.Tuple es k tpos)) pos) (sRetT fs) := by
  obtain ⟨t, p, s⟩ := h.ex
  refine ⟨tRet (tTup t), ps_ret (pe_tup p), fun r s' Hf H L sr D q => ?_⟩
  refine s r s' Hf H L sr _ ?_
  cases e0 : fs r with
  | bad => simp only [sRetT, e0] at q; exact q.elim
  | exc e' =>
    simp only [sRetT, e0] at q
    exact fun cls d Hf2 H2 x2 h2 => q s' cls d Hf2 H2 L x2.fsame (sr.mono x2) h2
  | ok os =>
    simp only [sRetT, e0] at q
    by_cases hc : os.length ≤ 1000
    · rw [if_pos hc] at q
      intro vs Hf1 H1 M x1 h1 nd k
      refine ⟨by rw [RepOs.length h1]; exact Nat.le_trans hc (by decide), fun p hp => ?_⟩
      have x2 : Ext Hf1 H1 Hf1 (upd H1 p (.tup vs)) := Ext.new x1.sub hp
      refine q (.ref p) Hf1 _ (p :: M) (sr.ext.trans (x1.trans x2)) ⟨p, vs, M, rfl, upd_same, RepOs.mono (Same.refl _) os vs M (fun a _ u e => x2.same a u e) h1, rfl⟩ ⟨?_, fun a ha => ?_⟩
      · exact List.nodup_cons.mpr ⟨fun z => (k p z).2.2.2 hp, nd⟩
      · rcases List.mem_cons.mp ha with h | h
        · subst h
          exact ⟨sr.ext.same.free (x1.same.free hp), sub_none x1.sub hp, by rw [upd_same]; simp⟩
        · obtain ⟨_, k2, k3, k4⟩ := k a h
          exact ⟨k3, k2, ne_none_of x2.same k4⟩
    · rw [if_neg hc] at q; exact q.elim
end DL

namespace DL
open PySem L2
/-! max(xs, default=d) of a list of ints -/
section
variable {prog : Program} {w : World} {A : Around} {R : Result → Shared → Prop} {I : Addr} {fp wr : List Addr} {n : Nat} {P : Nat → Value → Prop} {St : Nat → Heap → Prop} {E : Value → Shared → Prop} {s : Shared}
theorem call_kw {id : String} {b : Builtin} {args : Args} {Q : Value → Shared → Prop} (hk : builtinKind id = none) (hp : plainId id = true) (hb : entryFor table id = some b) (ha : argsOk id args)
    (hc : wpAny (model prog w) A.in1 (b args) (fun fin s' => match fin with
      | .done f => (match (Except.ok f : Result) with | .ok (.ret v) => Q v s' | .ok _ => False | .error e => E e s')
      | .again c' => c'.quiet = true ∧ codeAny (model prog w) A c' (fun r s' => match r with | .ok (.ret v) => Q v s' | .ok _ => False | .error e => E e s') s') E s) :
    wpAny (model prog w) A (call (.builtin id) args.pos args.kw) Q E s := by
  refine wpAny_call (codeAny_call_builtin hp hb ?_)
  simp only [checkBuiltinCall, hk]
  cases hsig : Manifest.signature? id with
  | none => exact wpAny_pure hc
  | some sig =>
    simp only [argsOk, hsig] at ha
    have h2 : Bind.checkArgs id sig args = pure () := ha
    show wpAny _ A.in1 (Bind.checkArgs id sig args) _ _ s
    rw [h2]; exact wpAny_pure hc
theorem loopD (kw : List (Str × Value)) (W : Walks prog w A.in1 I fp wr n P St) (bt : Nat → Nat → Bool) (hcmp : CmpOf prog w A.in1 .Gt P bt) (S : Addr) (hSf : S ∉ fp) (k : Nat) :
    ∀ (j : Nat) (s : Shared) (vb : Value) (c : Nat), n - (j + 1) = k → j + 1 ≤ n → St (j + 1) s.heap → P (argBest bt j) vb → s.heap.get? S = some { cls := .type "list", dict := none, data := .seq #[vb, vb] c, slots := #[] } →
    (∀ v h' tk, P (argBest bt (n - 1)) v → (∀ b o, b ∉ wr → b ≠ S → s.heap.get? b = some o → h'.get? b = some o) → R (.ok (.ret v)) { s with heap := h', toks := tk }) →
    codeAny (model prog w) A (.builtin "max.loop" ⟨[.ref I, .none, .ref S], kw⟩) R s := by
  have hSw : S ∉ wr := fun h => hSf (W.sub _ h)
  have nm : (toString "max" ++ toString ".loop" : String) = "max.loop" := by decide
  induction k with
  | zero =>
    intro j s vb c hk hj hst hPb hS hR
    obtain rfl : j + 1 = n := by omega
    refine codeAny_builtin F.entry_max_loop ?_
    rw [Around.under_plainId F.plain_max_loop _]
    show wpAny _ A.in1 (seqItems? (.ref S) >>= _) _ _ s
    refine wpAny_bind (wpAny_seqItems hS rfl ?_)
    show wpAny _ A.in1 (tryCatch (pyNext (.ref I)) _ >>= _) _ _ s
    refine wpAny_bind (wpAny_tryCatch (W.done s _ _ hst fun h' tk hk' => ?_))
    show wpAny _ A.in1 (updateSeq S (fun _ => #[]) >>= _) _ _ _
    refine wpAny_bind (wpAny_updateSeq (hk' S _ hSw hS) rfl (wpAny_bind (wpAny_letGo (wpAny_pure ?_))))
    exact hR vb _ tk hPb fun b o hbw hbS e => (Heap.get?_update_other _ _ (Ne.symm hbS)).trans (hk' b o hbw e)
  | succ k ih =>
    intro j s vb c hk hj hst hPb hS hR
    have hlt : j + 1 < n := by omega
    refine codeAny_builtin F.entry_max_loop ?_
    rw [Around.under_plainId F.plain_max_loop _]
    show wpAny _ A.in1 (seqItems? (.ref S) >>= _) _ _ s
    refine wpAny_bind (wpAny_seqItems hS rfl ?_)
    show wpAny _ A.in1 (tryCatch (pyNext (.ref I)) _ >>= _) _ _ s
    refine wpAny_bind (wpAny_tryCatch (W.item (j + 1) s _ _ hlt hst fun v h' tk hP hst' hk' => ?_))
    have hS' := hk' S _ hSw hS
    show wpAny _ A.in1 (tryCatch (holding [v, v] (richCompare .Gt v vb >>= _)) _ >>= _) _ _ _
    refine wpAny_bind (wpAny_tryCatch (wpAny_holding (wpAny_bind (hcmp (j + 1) (argBest bt j) v vb _ _ _ hP hPb ?_))))
    refine wpAny_bind (wpAny_holding (wpAny_truthy_bool (wpAny_bind (wpAny_letGo (wpAny_pure ?_)))))
    cases hb : bt (j + 1) (argBest bt j) with
    | true =>
      simp only [if_true]
      refine wpAny_bind (wpAny_updateSeq hS' rfl (wpAny_bind (wpAny_letGo ?_)))
      rw [nm]
      refine wpAny_pure ⟨plainId_quiet F.plain_max_loop _, ih (j + 1) _ v _ (by omega) hlt (W.frame _ _ _ hst' fun b hbf o e => ?_) (by simp only [argBest, hb, if_true]; exact hP) (Heap.get?_update_self _ hS' rfl) fun v' h'' tk'' hP' hk'' => ?_⟩
      · exact (Heap.get?_update_other _ _ (fun h : S = b => hSf (by rw [h]; exact hbf))).trans e
      · exact hR v' h'' tk'' hP' fun b o hbw hbS e => hk'' b o hbw hbS ((Heap.get?_update_other _ _ (Ne.symm hbS)).trans (hk' b o hbw e))
    | false =>
      simp only [Bool.false_eq_true, if_false]
      refine wpAny_bind (wpAny_letGo ?_)
      rw [nm]
      refine wpAny_pure ⟨plainId_quiet F.plain_max_loop _, ih (j + 1) _ vb c (by omega) hlt hst' (by simp only [argBest, hb, Bool.false_eq_true, if_false]; exact hPb) hS' fun v' h'' tk'' hP' hk'' => ?_⟩
      exact hR v' h'' tk'' hP' fun b o hbw hbS e => hk'' b o hbw hbS (hk' b o hbw e)
/-- the loop's beginning: nothing there, or a first one -/
theorem firstD (nmd : Str) (d : Value) (W : Walks prog w A.in1 I fp wr n P St) (bt : Nat → Nat → Bool) (hcmp : CmpOf prog w A.in1 .Gt P bt) (S : Addr) (hSf : S ∉ fp) {c : Nat} (hst : St 0 s.heap)
    (hS : s.heap.get? S = some { cls := .type "list", dict := none, data := .seq #[] c, slots := #[] })
    (h0 : n = 0 → ∀ h' tk, (∀ b o, b ∉ wr → s.heap.get? b = some o → h'.get? b = some o) → R (.ok (.ret d)) { s with heap := h', toks := tk })
    (hR : 0 < n → ∀ v h' tk, P (argBest bt (n - 1)) v → (∀ b o, b ∉ wr → b ≠ S → s.heap.get? b = some o → h'.get? b = some o) → R (.ok (.ret v)) { s with heap := h', toks := tk }) :
    codeAny (model prog w) A (.builtin "max.loop" ⟨[.ref I, .none, .ref S], [(nmd, d)]⟩) R s := by
  have hSw : S ∉ wr := fun h => hSf (W.sub _ h)
  have nm : (toString "max" ++ toString ".loop" : String) = "max.loop" := by decide
  refine codeAny_builtin F.entry_max_loop ?_
  rw [Around.under_plainId F.plain_max_loop _]
  show wpAny _ A.in1 (seqItems? (.ref S) >>= _) _ _ s
  refine wpAny_bind (wpAny_seqItems hS rfl ?_)
  show wpAny _ A.in1 (tryCatch (pyNext (.ref I)) _ >>= _) _ _ s
  by_cases hn : n = 0
  · subst hn
    refine wpAny_bind (wpAny_tryCatch (W.done s _ _ hst fun h' tk hk' => ?_))
    exact wpAny_pure (M := model prog w) (E := fun e s' => R (.error e) s') (h0 rfl h' tk hk')
  · have hn' : 0 < n := Nat.pos_of_ne_zero hn
    refine wpAny_bind (wpAny_tryCatch (W.item 0 s _ _ hn' hst fun v h' tk hP hst' hk' => ?_))
    have hS' := hk' S _ hSw hS
    show wpAny _ A.in1 (updateSeq S (fun _ => #[v, v]) >>= _) _ _ _
    refine wpAny_bind (wpAny_updateSeq hS' rfl ?_)
    rw [nm]
    refine wpAny_pure ⟨plainId_quiet F.plain_max_loop _, loopD _ W bt hcmp S hSf _ 0 _ v _ rfl hn' (W.frame _ _ _ hst' fun b hbf o e => ?_) hP (Heap.get?_update_self _ hS' rfl) fun v' h'' tk'' hP' hk'' => ?_⟩
    · exact (Heap.get?_update_other _ _ (fun h : S = b => hSf (by rw [h]; exact hbf))).trans e
    · exact hR hn' v' h'' tk'' hP' fun b o hbw hbS e => hk'' b o hbw hbS ((Heap.get?_update_other _ _ (Ne.symm hbS)).trans (hk' b o hbw e))
theorem args_maxD (a d : Value) : argsOk "max" ⟨[a], [(Str.ofString "default", d)]⟩ := by unfold argsOk; kernel_rfl
theorem maxD_raw {l : Addr} {its : List Value} {ns : List Int} {d : Value} {Q : Value → Shared → Prop} (hh : A.handled = none) (hl : s.heap.IsList l its.toArray) (hi : PyProof.Rows.IntsAre its ns)
    (h0 : ns = [] → ∀ h' tk, (∀ b o, s.heap.get? b = some o → h'.get? b = some o) → Q d { s with heap := h', toks := tk })
    (h1 : 0 < ns.length → ∀ h' tk M t', (∀ b o, s.heap.get? b = some o → h'.get? b = some o) → M ∈ ns → (∀ a, a ∈ ns → a ≤ M) → Q (.int M t') { s with heap := h', toks := tk }) :
    wpAny (model prog w) A (call (.builtin "max") [.ref l] [(Str.ofString "default", d)]) Q E s := by
  obtain ⟨xs, e⟩ := hi.allInts.items
  have hn : numsOf (intItems xs).toList = ns := by rw [← e]; exact hi.numsOf
  rw [nums_intItems] at hn
  subst hn
  rw [e] at hl
  have nm : (toString "max" ++ toString ".loop" : String) = "max.loop" := by decide
  refine call_kw (args := ⟨[.ref l], [(Str.ofString "default", d)]⟩) F.kind_max F.plain_max F.entry_max (args_maxD _ _) ?_
  show wpAny _ A.in1 (Builtin.Builtins.bindParams "max" ["key", "default"] 0 ⟨[], [(Str.ofString "default", d)]⟩ >>= _) _ _ s
  refine wpAny_bind (wpAny_of_eq (show Builtin.Builtins.bindParams "max" ["key", "default"] 0 ⟨[], [(Str.ofString "default", d)]⟩ = pure [none, some d] from rfl) ?_)
  refine wpAny_bind (wpAny_pure ?_)
  refine wpAny_bind (iter_intList hl fun s₂ e st hfp hlI => ?_)
  subst e
  refine wpAny_bind (wpAny_newObj_type ?_)
  rw [nm]
  have W := Walks.list (prog := prog) (w := w) (A := A.in1) hh _ l hlI (intItems xs)
  refine wpAny_pure ⟨plainId_quiet F.plain_max_loop _, firstD _ d W _ (CmpOf.ints_gt (numAt xs) (fun _ _ => intItems_at)) _ (fun hm => Nat.lt_irrefl _ (hfp _ hm)) (W.frame _ _ _ st fun b _ o e => Heap.get?_push_of_some _ e) (Heap.get?_push_size _ rfl) (fun hz h' tk hk => ?_) fun hz v h' tk hP hk => ?_⟩
  · refine h0 ?_ h' tk (old_kept fun b o hb e => hk b o hb (Heap.get?_push_of_some _ e))
    have : xs.size = 0 := by simpa [intItems] using hz
    simp [Array.size_eq_zero_iff.mp this]
  · have hsz : 0 < xs.size := by simpa [intItems] using hz
    have hP' : (intItems xs)[argBest (fun i j => decide (numAt xs i > numAt xs j)) (xs.size - 1)]? = some v := by simpa [intItems] using hP
    obtain ⟨t, rfl⟩ := intItems_at hP'
    obtain ⟨g1, g2⟩ := argBest_gt (numAt xs) (xs.size - 1)
    refine h1 (by rw [List.length_map, Array.length_toList]; exact hsz) h' tk _ t (old_kept fun b o hb e => hk b o hb (Nat.ne_of_lt (Heap.lt_size e)) (Heap.get?_push_of_some _ e)) ?_ fun a ha => ?_
    · rw [numAt_eq]; exact PySem.getD_mem (by rw [List.length_map, Array.length_toList]; omega)
    · obtain ⟨j, hj, rfl⟩ := mem_getD ha
      rw [List.length_map, Array.length_toList] at hj
      rw [← numAt_eq]; exact g2 j (by omega)
end
section
variable {X : Cx}
def rMaxD (K : PySem.W.Frag) (d : Int) : List V → List V → Hp → VK → Prop := fun vs zs H Q => ∃ (a : Addr) (ns : List Int), vs = [V.ref a] ∧ zs = [.int d] ∧ SqL K H a (ns.map V.int) ∧ ∀ m, (ns = [] → m = d) → (0 < ns.length → m ∈ ns ∧ ∀ y, y ∈ ns → y ≤ m) → Q (.int m) H
theorem cr_maxD {d : Int} (hc : X.calm = true) : CallRK X (.builtin "max") [Str.ofString "default"] (rMaxD X.K d) := by
  intro pins s σ H vs zs us ws Q I r rz h
  obtain ⟨a, ns, rfl, rfl, hs, q⟩ := h
  obtain rfl := Vals.ref1 r
  obtain ⟨w1, rfl, t1, rfl⟩ := vals1 rz
  obtain ⟨its, rv, hl, _⟩ := I.list hs
  refine maxD_raw (I.ok.hd hc) hl.isList rv.ints (fun hz h' tk hk => ?_) fun hz h' tk m t' hk h1 h2 => ?_
  · exact ⟨.int d, H, I.kept hk, ⟨_, rfl⟩, q d (fun _ => rfl) (fun hp => by rw [hz] at hp; simp at hp)⟩
  · exact ⟨.int m, H, I.kept hk, ⟨_, rfl⟩, q m (fun hn => by rw [hn] at hz; simp at hz) (fun _ => ⟨h1, h2⟩)⟩
end
section
variable {c : Cn} {X : Cx} {a b e : Expr} {es : List Expr} {f g fa fb : FE} {pos : Pos} {K : PySem.W.Frag} {H0 H H' Hf Hf' : Hp}
def maxD (d : Int) : List Int → Int
  | [] => d
  | x :: xs => maxL x xs
def eMaxD (d : Int) (f : FE) : FE := fun r => (f r).bind fun x => match (items x.a).bind intsOf with
  | some ns => fzR (.int (maxD d ns))
  | none => .bad
theorem de_maxD {d : Int} {x : Str} {p kp : Pos} {ed : Expr} {k : Nat} (B : Bk c X k) (hg : Gl X x) (hm : X.mg x = none) (hv : bootBuiltins x = some (.builtin "max")) (h : DE c X e f) (hd : PE X ed (tC (.int d)))
    (hn : x ≠ "__name__" := by decide) (hdb : (x == ("__debug__" : Str)) = false := by decide)
    (he : backTo pos (starEach [e] X.env) = (false, eval e X.env) :: backTo pos (starEach [] X.env) := by rfl) (hpl : (backTo pos (starEach [e] X.env)).any (·.1) = false := by rfl)
    (hst : starEach [e] X.env = (false, eval e X.env) :: starEach [] X.env := by rfl)
    (hall : (backToKw pos (keywordEach [⟨some "default", ed, kp⟩] X.env)).all (·.1.isSome) = true := by rfl) (hnone : (backToKw pos (keywordEach [⟨some "default", ed, kp⟩] X.env)).any (·.1.isNone) = false := by rfl)
    (hks : (backToKw pos (keywordEach [⟨some "default", ed, kp⟩] X.env)).filterMap (·.1) = [Str.ofString "default"] := by rfl) :
    DE c X (.Call (.Name x p) [e] [⟨some "default", ed, kp⟩] pos) (eMaxD d f) := by
  obtain ⟨t, pa, s⟩ := h.ex
  refine ⟨tCKw (rMaxD X.K d) (tCons t tNil) (tCons (tC (.int d)) tNil), pe_callBK (cr_maxD B.calm) hg hm hv (pa_cons pa pa_nil hst) (pk_cons hd pk_nil) hn hdb he hpl hall hnone hks, fun r s' Hf H L sr Q q => ?_⟩
  refine s.run sr pstE q fun y v Hf1 H1 x1 sr1 a1 q1 => ?_
  have a2 := a1.a sr1.same0
  cases ei : items y.a with
  | none => simp only [ei, Option.bind] at q1; exact q1.elim
  | some os =>
    cases en : intsOf os with
    | none => simp only [ei, en, Option.bind] at q1; exact q1.elim
    | some ns =>
      simp only [ei, en, Option.bind] at q1
      obtain ⟨l, vs, e1, h1, h2⟩ := items_rep sr1.sub a2 ei
      have h3 := intsOf_rep en h2
      subst h3
      refine ⟨l, ns, by rw [e1], rfl, h1, fun m h4 h5 => ?_⟩
      have hm : m = maxD d ns := by
        cases ns with
        | nil => exact h4 rfl
        | cons z zs =>
          obtain ⟨g1, g2⟩ := h5 (by simp)
          obtain ⟨k1, k2⟩ := maxL_ge zs z
          have a1 : m ≤ maxL z zs := by
            rcases List.mem_cons.mp g1 with h | h
            · rw [h]; exact k1
            · exact k2 m h
          have a2 := g2 _ (maxL_mem zs z)
          exact Int.le_antisymm a1 a2
      rw [hm]
      exact postE_fz sr1.sub q1 rfl
/-! x in xs -/
def gIn (a b : O) : Res R := match py (er a), py (er b) with
  | some p, some (.list ds) => if SeqAt.shaped p && SeqAt.shaped (.list ds) then fzR (.bl (ds.any fun z => PyData.eqv z p)) else .bad
  | _, _ => .bad
theorem pr_in : PureR K (rInD K) gIn := fun c s Hf H x y a b Q sub ha hb q => by
  unfold gIn at q
  split at q
  · rename_i p ds e1 e2
    by_cases hc : (SeqAt.shaped p && SeqAt.shaped (.list ds)) = true
    · rw [if_pos hc] at q
      rw [Bool.and_eq_true] at hc
      exact ⟨p, ds, dp_of e1 (RepV.rep sub a x ha), dp_of e2 (RepV.rep sub b y hb), hc.1, hc.2, postE_fz sub q rfl⟩
    · rw [if_neg hc] at q; exact q.elim
  · exact q.elim
theorem de_in {k : Nat} (B : Bk c X k) (ha : DE c X a fa) (hb : DE c X b fb) (hm : behindInMarks .In b = false := by rfl) : DE c X (.Compare a [.In] [b] pos) (eOp gIn fa fb) := de_cmp (op_inD (by have := B.hr.un; omega)) pr_in ha hb hm
theorem dt_in {k : Nat} (B : Bk c X k) (ha : DE c X a fa) (hb : DE c X b fb) (hm : behindInMarks .In b = false := by rfl) : DT c X (.Compare a [.In] [b] pos) (tOf (eOp gIn fa fb)) := dt_cmp (op_inD (by have := B.hr.un; omega)) pr_in ha hb hm
/-! a statement that is never reached -/
def sDead : FS := fun _ => .bad
theorem ds_dead {st : Stmt} : DS c X st sDead := ⟨fun _ _ _ => False, ⟨fun _ _ _ _ _ _ h => h.elim⟩, fun _ _ _ _ _ _ _ q => q.elim⟩
end
end DL

section
open DL
open L2 (atI ixN)
def gcdI (a b : Int) : Int := (Int.gcd a b : Nat)
theorem absI_eq (a : Int) : (if a < 0 then -a else a) = (a.natAbs : Int) := by split <;> omega
theorem fmod_nat (a b : Nat) : ((a : Int).fmod b) = ((a % b : Nat) : Int) := by rw [Int.fmod_eq_emod_of_nonneg _ (by omega)]; rfl
theorem gcd_turn (a b : Nat) : Nat.gcd b (a % b) = Nat.gcd a b := by rw [Nat.gcd_comm a b, Nat.gcd_rec b a, Nat.gcd_comm]
theorem gcdI_comm (a b : Int) : gcdI a b = gcdI b a := by unfold gcdI; rw [Int.gcd_comm]
theorem natAbs_mul_lt {x y : Int} {m n k : Nat} (hx : x.natAbs < 2 ^ m) (hy : y.natAbs < 2 ^ n) (hk : m + n ≤ k) : (x * y).natAbs < 2 ^ k := by
  rw [Int.natAbs_mul]
  have h1 : x.natAbs * y.natAbs < 2 ^ m * 2 ^ n := Nat.mul_lt_mul'' hx hy
  rw [← Nat.pow_add] at h1
  exact Nat.lt_of_lt_of_le h1 (Nat.pow_le_pow_right (by omega) hk)
theorem natAbs_add_lt {x y : Int} {m k : Nat} (hx : x.natAbs < 2 ^ m) (hy : y.natAbs < 2 ^ m) (hk : m + 1 ≤ k) : (x + y).natAbs < 2 ^ k := by
  have h1 : (x + y).natAbs ≤ x.natAbs + y.natAbs := Int.natAbs_add_le x y
  have h2 : 2 ^ (m + 1) ≤ 2 ^ k := Nat.pow_le_pow_right (by omega) hk
  rw [Nat.pow_succ] at h2
  omega
theorem natAbs_sub_lt {x y : Int} {m k : Nat} (hx : x.natAbs < 2 ^ m) (hy : y.natAbs < 2 ^ m) (hk : m + 1 ≤ k) : (x - y).natAbs < 2 ^ k := by
  have h1 : (x - y).natAbs ≤ x.natAbs + y.natAbs := Int.natAbs_sub_le x y
  have h2 : 2 ^ (m + 1) ≤ 2 ^ k := Nat.pow_le_pow_right (by omega) hk
  rw [Nat.pow_succ] at h2
  omega
theorem lt_up {a m n : Nat} (h : a < 2 ^ m) (hm : m ≤ n) : a < 2 ^ n := Nat.lt_of_lt_of_le h (Nat.pow_le_pow_right (by omega) hm)
theorem lt_of_log2 {a k : Nat} (h : a.log2 < k) : a < 2 ^ k := by
  by_cases h0 : a = 0
  · subst h0; exact Nat.two_pow_pos k
  · exact (Nat.log2_lt h0).mp h
theorem log2_of_lt {a k : Nat} (h0 : 0 < k) (h : a < 2 ^ k) : a.log2 < k := PySem.Flt.log2_lt_of h0 h
def dIs : List D → Option (List Int)
  | [] => some []
  | .int i :: r => (dIs r).map (i :: ·)
  | _ => none
def oIs : List O → Option (List Int)
  | [] => some []
  | .fz (.int i) :: r => (oIs r).map (i :: ·)
  | _ => none
/-- a list of whole numbers, new or frozen -/
def asIL : O → Option (List Int)
  | .ls os => oIs os
  | .fz (.lst ds) => dIs ds
  | _ => none
abbrev lD (xs : List Int) : D := .lst (xs.map .int)
abbrev lO (xs : List Int) : O := .fz (.lst (xs.map .int))
abbrev nO (xs : List Int) : O := .ls (iL xs)
theorem dIs_eq : ∀ {ds : List D} {xs : List Int}, dIs ds = some xs → ds = xs.map .int
  | [], xs, h => by cases h; rfl
  | d :: r, xs, h => by
    cases d with
    | int i =>
      cases e : dIs r with
      | none => simp [dIs, e] at h
      | some ys =>
        have h' : i :: ys = xs := by simpa [dIs, e] using h
        rw [← h', dIs_eq e]; rfl
    | _ => simp [dIs] at h
theorem oIs_eq : ∀ {os : List O} {xs : List Int}, oIs os = some xs → os = iL xs
  | [], xs, h => by cases h; rfl
  | o :: r, xs, h => by
    cases o with
    | ls _ => simp [oIs] at h
    | tp _ => simp [oIs] at h
    | fz d =>
      cases d with
      | int i =>
        cases e : oIs r with
        | none => simp [oIs, e] at h
        | some ys =>
          have h' : i :: ys = xs := by simpa [oIs, e] using h
          rw [← h', oIs_eq e]; rfl
      | _ => simp [oIs] at h
@[simp] theorem dIs_map (xs : List Int) : dIs (xs.map .int) = some xs := by induction xs with
  | nil => rfl
  | cons x xs ih => simp [dIs, ih]
@[simp] theorem oIs_iL (xs : List Int) : oIs (iL xs) = some xs := by induction xs with
  | nil => rfl
  | cons x xs ih => simp [oIs, iL] at ih ⊢; rw [ih]
@[simp] theorem asIL_ls (xs : List Int) : asIL (.ls (iL xs)) = some xs := oIs_iL xs
@[simp] theorem asIL_lst (xs : List Int) : asIL (.fz (.lst (xs.map .int))) = some xs := dIs_map xs
@[simp] theorem asIL_lD (xs : List Int) : asIL (.fz (lD xs)) = some xs := dIs_map xs
@[simp] theorem asIL_nil : asIL (.fz (.lst [])) = some [] := (rfl)
@[simp] theorem asIL_nil2 : asIL (.ls []) = some [] := (rfl)
theorem asIL_cases {o : O} {xs : List Int} (h : asIL o = some xs) : o = nO xs ∨ o = lO xs := by
  cases o with
  | ls os => left; rw [oIs_eq (show oIs os = some xs from h)]
  | tp os => simp [asIL] at h
  | fz d =>
    cases d with
    | lst ds => right; rw [dIs_eq (show dIs ds = some xs from h)]
    | _ => simp [asIL] at h
@[simp] theorem see_a (w : Bool) (o : O) : (see w o).a = o := by
  cases o with
  | fz d => rfl
  | ls os => cases w <;> rfl
  | tp os => cases w <;> rfl
theorem items_lO (xs : List Int) : items (lO xs) = some (iL xs) := items_int xs
theorem asIL_items {o : O} {xs : List Int} (h : asIL o = some xs) : items o = some (iL xs) := by
  rcases asIL_cases h with rfl | rfl
  · rfl
  · exact items_int xs
theorem asIL_er {o : O} {xs : List Int} (h : asIL o = some xs) : er o = lD xs := by
  rcases asIL_cases h with rfl | rfl
  · simp [ers_iL]
  · rfl
theorem asIL_fz {o : O} {xs : List Int} (h : asIL o = some xs) : asIL (.fz (er o)) = some xs := by rw [asIL_er h]; simp
theorem gLen_IL {o : O} {xs : List Int} (h : asIL o = some xs) : gLen [o] = .ok (.nw (I xs.length)) := by
  have hi := asIL_items h
  have e : lenO o = some xs.length := by
    rcases asIL_cases h with rfl | rfl
    · show (items (nO xs)).map List.length = _
      rw [hi]; simp
    · show (items (lO xs)).map List.length = _
      rw [hi]; simp
  simp only [gLen, e]; rfl
theorem gList_IL {o : O} {xs : List Int} (h : asIL o = some xs) : gList [o] = .ok (.nw (nO xs)) := by
  have hi := asIL_items h
  simp only [gList, hi, allFz_iL, if_true]
theorem tyO_IL {o : O} {xs : List Int} (h : asIL o = some xs) : tyO o = some .lst := by
  rcases asIL_cases h with rfl | rfl <;> rfl
theorem ixO_IL {o : O} {xs : List Int} (h : asIL o = some xs) (k : Int) : ixO o k = atI (iL xs) k := by
  have hi := asIL_items h
  rcases asIL_cases h with rfl | rfl
  · rfl
  · show (items (lO xs)).bind (fun os => atI os k) = _
    rw [hi]; rfl
theorem atI_iL {xs : List Int} {i : Nat} {k : Int} (hk : k = (i : Int)) (h : i < xs.length) : atI (iL xs) k = some (I xs[i]) := by
  refine atI_ok (by omega) ?_
  rw [show k.toNat = i by omega]; exact iL_get h
theorem atI_last {α : Type} {xs : List α} (h : 0 < xs.length) : atI xs (-1) = some xs[xs.length - 1] := by
  unfold atI ixN
  rw [if_neg (by omega), if_pos (by omega)]
  simp
  rw [show (-1 + (xs.length : Int)).toNat = xs.length - 1 by omega]
  exact List.getElem?_eq_getElem (by omega)
theorem ix_at {f g : FE} {r : Env} {x : R} {xs : List Int} {k : Int} {v : Int} (h1 : f r = .ok x) (hx : asIL x.a = some xs) (h2 : g r = .ok (.nw (I k))) (h : atI (iL xs) k = some (I v)) : eIx f g r = .ok (.nw (I v)) := by
  cases x with
  | nw o =>
    have e := ixO_IL hx k
    rw [h] at e
    have e' : ixO (.fz (er o)) k = some (I v) := e
    simp [eIx, h1, h2, e']
  | vw o =>
    have e : ixO o k = _ := ixO_IL hx k
    rw [h] at e
    simp [eIx, h1, h2, e]
  | bw o =>
    have e : ixO o k = _ := ixO_IL hx k
    rw [h] at e
    simp [eIx, h1, h2, e]
theorem ix_IL {f g : FE} {r : Env} {x : R} {xs : List Int} {i : Nat} {k : Int} (h1 : f r = .ok x) (hx : asIL x.a = some xs) (h2 : g r = .ok (.nw (I k))) (hk : k = (i : Int)) (h : i < xs.length) : eIx f g r = .ok (.nw (I xs[i])) :=
  ix_at h1 hx h2 (atI_iL hk h)
theorem ix_lastIL {f g : FE} {r : Env} {x : R} {xs : List Int} (h1 : f r = .ok x) (hx : asIL x.a = some xs) (h2 : g r = .ok (.nw (I (-1)))) (h : 0 < xs.length) : eIx f g r = .ok (.nw (I xs[xs.length - 1])) := by
  refine ix_at h1 hx h2 ?_
  rw [atI_last (by simpa using h)]
  simp [iL]
theorem var_of {i : Nat} {r : Env} {w : Bool} {o : O} (h : r[i]? = some (.vl w o)) : eVar i r = .ok (see w o) := eVar_of h
theorem its_IL {o : O} {xs : List Int} (h : asIL o = some xs) : itsL (see false o) = .ok (xs.map intR) := by
  rcases asIL_cases h with rfl | rfl
  · simp [itsL, iL, intR]
  · simp [itsL, items_int, iL, intR]
theorem its_nw {o : O} {xs : List Int} (h : asIL o = some xs) : itsL (.nw o) = .ok (xs.map intR) := by
  have hi := asIL_items (asIL_fz h)
  simp [itsL, hi, iL, intR]
theorem iL_map (xs : List Int) (f : Int → Int) : (iL xs).map (fun o => match o with | .fz (.int i) => .fz (.int (f i)) | o => o) = iL (xs.map f) := by simp [iL]
theorem cutL_iL (xs : List Int) (lo hi : Option Int) : cutL (iL xs) lo hi = iL (cutL xs lo hi) := by
  unfold cutL
  simp only [iL_length]
  simp only [iL, List.map_drop, List.map_take]
theorem stepL_iL (xs : List Int) (lo hi st : Option Int) : stepL (iL xs) lo hi st = iL (stepL xs lo hi st) := by
  unfold stepL
  simp only [iL_length]
  generalize PySem.sliceRange _ _ _ = ix
  induction ix with
  | nil => rfl
  | cons i ix ih =>
    cases e : xs[i]? with
    | none => rw [List.filterMap_cons_none e, List.filterMap_cons_none (by simp [iL, e]), ih]
    | some x => rw [List.filterMap_cons_some e, List.filterMap_cons_some (b := I x) (by simp [iL, e]), ih]; rfl
theorem cut_hi {α : Type} (xs : List α) (m : Nat) : cutL xs none (some (m : Int)) = xs.take m := by
  unfold cutL
  rw [HT.sIx_nat, HT.sIx_none]
  simp only [List.drop_zero, Nat.sub_zero]
  by_cases h : m ≤ xs.length
  · rw [Nat.min_eq_left h]
  · rw [Nat.min_eq_right (by omega), List.take_length, List.take_of_length_le (by omega)]
theorem lsR_iL {xs : List Int} (h : xs.length ≤ 100000) : lsR (iL xs) = .ok (.nw (nO xs)) := lsR_ev (allFz_iL xs) (by simpa using h)
theorem sl_IL {f : FE} {l h : FP} {r : Env} {x : R} {xs : List Int} {lo hi : Option Int} (h1 : f r = .ok x) (hx : asIL x.a = some xs) (h2 : l r = .ok lo) (h3 : h r = .ok hi) (hz : xs.length ≤ 100000) : eSl f l h r = .ok (.nw (nO (cutL xs lo hi))) := by
  have e := asIL_items hx
  have hl : (cutL xs lo hi).length ≤ 100000 := by
    unfold cutL
    rw [List.length_take, List.length_drop]; omega
  simp only [eSl, h1, h2, h3, res_ok, e, cutL_iL, lsR_iL hl]
theorem slS_IL {f : FE} {l h s : FP} {r : Env} {x : R} {xs : List Int} {lo hi : Option Int} {st : Option Int} (h1 : f r = .ok x) (hx : asIL x.a = some xs) (h2 : l r = .ok lo) (h3 : h r = .ok hi) (h4 : s r = .ok st) (h0 : st ≠ some 0) (hz : (stepL xs lo hi st).length ≤ 100000) : eSlS f l h s r = .ok (.nw (nO (stepL xs lo hi st))) := by
  have e := asIL_items hx
  simp only [eSlS, h1, h2, h3, h4, res_ok, e, stepL_iL, lsR_iL hz, h0, if_false]
theorem intsOf_iL (xs : List Int) : intsOf (iL xs) = some xs := by
  induction xs with
  | nil => rfl
  | cons x xs ih => show (intsOf (iL xs)).map (x :: ·) = _; rw [ih]; rfl
theorem min_IL {o : O} {x : Int} {xs : List Int} (h : asIL o = some (x :: xs)) : gMinL [o] = .ok (.nw (I (minL x xs))) := by
  simp only [gMinL, asIL_items h, Option.bind_some, intsOf_iL]; rfl
theorem max_IL {o : O} {x : Int} {xs : List Int} (h : asIL o = some (x :: xs)) : gMaxL [o] = .ok (.nw (I (maxL x xs))) := by
  simp only [gMaxL, asIL_items h, Option.bind_some, intsOf_iL]; rfl
/-- how many items the list at a slot has -/
def lenS (i : Nat) (r : Env) : Nat := match r[i]? with
  | some (.vl _ o) => ((items o).map List.length).getD 0
  | _ => 0
theorem gMulA_lst (ds : List D) (o : O) : gMulA (.fz (.lst ds)) o = gRep (.fz (.lst ds)) o := rfl
theorem gAddA_lst (ds : List D) (o : O) : gAddA (.fz (.lst ds)) o = gCat (.fz (.lst ds)) o := rfl
/-! == of lists of numbers, of lists of such -/
theorem py_lD (xs : List Int) : py (lD xs) = some (.list (xs.map .int)) := by
  have h : ∀ xs : List Int, pys (xs.map .int) = some (xs.map .int) := fun xs => by
    induction xs with
    | nil => rfl
    | cons x xs ih => simp [pys, py, ih]
  simp [py, h]
theorem shaped_lD (xs : List Int) : PySem.SeqAt.shaped (.list (xs.map .int)) = true := by
  have h1 : ∀ xs : List Int, PySem.PyData.canLayAll0 (xs.map .int) = true := fun xs => by
    induction xs with
    | nil => rfl
    | cons x xs ih => simp [PySem.PyData.canLayAll0, PySem.PyData.canLay0, ih]
  have h2 : ∀ xs : List Int, PySem.PyData.depthAll (xs.map .int) ≤ 1 := fun xs => by
    induction xs with
    | nil => simp [PySem.PyData.depthAll]
    | cons x xs ih => simp [PySem.PyData.depthAll, PySem.PyData.depth]; omega
  have h3 := h2 xs
  unfold PySem.SeqAt.shaped
  rw [show PySem.PyData.canLay0 (.list (xs.map .int)) = true from h1 xs]
  simp only [Bool.true_and]
  refine decide_eq_true ?_
  simp only [PySem.PyData.depth]
  omega
theorem eqv_ints (xs ys : List Int) : PySem.PyData.eqv (.list (xs.map .int)) (.list (ys.map .int)) = decide (xs = ys) := by
  have h : ∀ xs ys : List Int, PySem.PyData.eqvAll (xs.map .int) (ys.map .int) = decide (xs = ys) := fun xs => by
    induction xs with
    | nil => intro ys; cases ys <;> simp [PySem.PyData.eqvAll]
    | cons x xs ih =>
      intro ys
      cases ys with
      | nil => simp [PySem.PyData.eqvAll]
      | cons y ys =>
        simp only [List.map_cons, PySem.PyData.eqvAll, ih ys, PySem.PyData.eqv, List.cons.injEq]
        by_cases h1 : x = y <;> by_cases h2 : xs = ys <;> simp [h1, h2]
  simp only [PySem.PyData.eqv, h]
theorem eqD_lD (xs ys : List Int) : eqD (lD xs) (lD ys) = some (decide (xs = ys)) := by
  simp only [eqD, py_lD, shaped_lD, Bool.and_self, if_true, eqv_ints]
/-- data of numbers, lists and tuples, at most so deep -/
def plainD : Nat → D → Bool
  | _, .int _ => true
  | _, .bl _ => true
  | _, .non => true
  | _, .str x => PySem.PyData.canLay0 (.str x)
  | n + 1, .lst ds => ds.all (plainD n)
  | n + 1, .tup ds => ds.all (plainD n)
  | _, _ => false
theorem plain_py : ∀ (n : Nat) (d : D), plainD n d = true → ∃ p, py d = some p ∧ PySem.PyData.canLay0 p = true ∧ PySem.PyData.depth p ≤ n + 1
  | n, .int i, _ => ⟨.int i, rfl, rfl, by simp [PySem.PyData.depth]⟩
  | n, .bl i, _ => ⟨.bool i, rfl, rfl, by simp [PySem.PyData.depth]⟩
  | n, .non, _ => ⟨.none, rfl, rfl, by simp [PySem.PyData.depth]⟩
  | n + 1, .lst ds, h => by
    have go : ∀ ds : List D, ds.all (plainD n) = true → ∃ ps, pys ds = some ps ∧ PySem.PyData.canLayAll0 ps = true ∧ PySem.PyData.depthAll ps ≤ n + 1 := fun ds => by
      induction ds with
      | nil => intro _; exact ⟨[], rfl, rfl, by simp [PySem.PyData.depthAll]⟩
      | cons d ds ih =>
        intro h
        obtain ⟨h1, h2⟩ := Bool.and_eq_true_iff.mp h
        obtain ⟨p, e1, e2, e3⟩ := plain_py n d h1
        obtain ⟨ps, f1, f2, f3⟩ := ih h2
        exact ⟨p :: ps, by simp [pys, e1, f1], by simp [PySem.PyData.canLayAll0, e2, f2], by simp only [PySem.PyData.depthAll]; omega⟩
    obtain ⟨ps, f1, f2, f3⟩ := go ds h
    exact ⟨.list ps, by simp [py, f1], f2, by simp only [PySem.PyData.depth]; omega⟩
  | n + 1, .tup ds, h => by
    have go : ∀ ds : List D, ds.all (plainD n) = true → ∃ ps, pys ds = some ps ∧ PySem.PyData.canLayAll0 ps = true ∧ PySem.PyData.depthAll ps ≤ n + 1 := fun ds => by
      induction ds with
      | nil => intro _; exact ⟨[], rfl, rfl, by simp [PySem.PyData.depthAll]⟩
      | cons d ds ih =>
        intro h
        obtain ⟨h1, h2⟩ := Bool.and_eq_true_iff.mp h
        obtain ⟨p, e1, e2, e3⟩ := plain_py n d h1
        obtain ⟨ps, f1, f2, f3⟩ := ih h2
        exact ⟨p :: ps, by simp [pys, e1, f1], by simp [PySem.PyData.canLayAll0, e2, f2], by simp only [PySem.PyData.depthAll]; omega⟩
    obtain ⟨ps, f1, f2, f3⟩ := go ds h
    exact ⟨.tuple ps, by simp [py, f1], f2, by simp only [PySem.PyData.depth]; omega⟩
  | n, .str x, h => ⟨.str x, rfl, by cases n <;> exact h, by simp [PySem.PyData.depth]⟩
  | n, .ex _, h => by cases n <;> simp [plainD] at h
  | n, .scr _, h => by cases n <;> simp [plainD] at h
  | 0, .lst _, h => by simp [plainD] at h
  | 0, .tup _, h => by simp [plainD] at h
theorem eqD_refl {d : D} (h : plainD 20 d = true) : eqD d d = some true := by
  obtain ⟨p, e1, e2, e3⟩ := plain_py 20 d h
  have hs : PySem.SeqAt.shaped p = true := by
    unfold PySem.SeqAt.shaped
    rw [e2, decide_eq_true (by omega)]; rfl
  simp only [eqD, e1, hs, Bool.and_self, if_true, PySem.SeqAt.eqv_refl p e2]
theorem plain_lD (n : Nat) (xs : List Int) : plainD (n + 1) (lD xs) = true := by
  simp [plainD]
/-- == where both are the same data -/
theorem gEq_same {a b : O} {d : D} (ha : er a = d) (hb : er b = d) (h : plainD 20 d = true) (hn : ∀ i, d ≠ .int i) : gEq a b = .ok (.nw (.fz (.bl true))) := by
  rcases int_cases a b with ⟨i, j, rfl, rfl⟩ | ⟨e, _⟩
  · exact absurd ha.symm (hn i)
  · rw [e]; simp only [gEqD, ha, hb, eqD_refl h]; rfl
theorem gNe_same {a b : O} {d : D} (ha : er a = d) (hb : er b = d) (h : plainD 20 d = true) (hn : ∀ i, d ≠ .int i) : gNe a b = .ok (.nw (.fz (.bl false))) := by
  rcases int_cases a b with ⟨i, j, rfl, rfl⟩ | ⟨_, e⟩
  · exact absurd ha.symm (hn i)
  · rw [e]; simp only [gNeD, ha, hb, eqD_refl h]; rfl
theorem gEq_IL {a b : O} {xs ys : List Int} (ha : asIL a = some xs) (hb : asIL b = some ys) : gEq a b = .ok (.nw (.fz (.bl (decide (xs = ys))))) := by
  rcases int_cases a b with ⟨i, j, rfl, rfl⟩ | ⟨e, _⟩
  · simp [asIL] at ha
  · rw [e]; simp only [gEqD, asIL_er ha, asIL_er hb, eqD_lD]; rfl
theorem gNe_IL {a b : O} {xs ys : List Int} (ha : asIL a = some xs) (hb : asIL b = some ys) : gNe a b = .ok (.nw (.fz (.bl (!decide (xs = ys))))) := by
  rcases int_cases a b with ⟨i, j, rfl, rfl⟩ | ⟨_, e⟩
  · simp [asIL] at ha
  · rw [e]; simp only [gNeD, asIL_er ha, asIL_er hb, eqD_lD]; rfl
theorem call1 {M : List O → Res O} {f : FE} {r : Env} {x : R} {o : O} (h : f r = .ok x) (hm : M [x.a] = .ok o) : eCall M (aCons f aNil) r = .ok (.nw o) := by
  rw [eCall_ev, aCons_ev, h]; simp [hm]
theorem call2 {M : List O → Res O} {f g : FE} {r : Env} {x y : R} {o : O} (h : f r = .ok x) (h2 : g r = .ok y) (hm : M [x.a, y.a] = .ok o) : eCall M (aCons f (aCons g aNil)) r = .ok (.nw o) := by
  rw [eCall_ev, aCons_ev, h, aCons_ev, h2]; simp [hm]
theorem call3 {M : List O → Res O} {f g k : FE} {r : Env} {x y z : R} {o : O} (h : f r = .ok x) (h2 : g r = .ok y) (h3 : k r = .ok z) (hm : M [x.a, y.a, z.a] = .ok o) : eCall M (aCons f (aCons g (aCons k aNil))) r = .ok (.nw o) := by
  rw [eCall_ev, aCons_ev, h, aCons_ev, h2, aCons_ev, h3]; simp [hm]
theorem b1 {g : List O → Res R} {f : FE} {r : Env} {x : R} (h : f r = .ok x) : eB g (aCons f aNil) r = g [x.a] := by
  rw [eB_ev, aCons_ev, h]; simp
theorem b2 {g : List O → Res R} {f k : FE} {r : Env} {x y : R} (h : f r = .ok x) (h2 : k r = .ok y) : eB g (aCons f (aCons k aNil)) r = g [x.a, y.a] := by
  rw [eB_ev, aCons_ev, h, aCons_ev, h2]; simp
theorem op_of {g : O → O → Res R} {f k : FE} {r : Env} {x y : R} (h : f r = .ok x) (h2 : k r = .ok y) : eOp g f k r = g x.a y.a := by
  rw [eOp_ev, h, h2]; simp
theorem bF {f : FE} {r : Env} (h : f r = .ok (.nw (.fz (.bl true)))) : tNotD (tOf f) r = .ok false := tNot_ok (tOf_ok h)
theorem or_ff {f g : Env → Res Bool} {r : Env} (h : f r = .ok false) (h2 : g r = .ok false) : tOrD f g r = .ok false := by simp [h, h2]
theorem and_f {f g : Env → Res Bool} {r : Env} (h : f r = .ok false) : tAndD f g r = .ok false := by simp [h]
theorem and_t {f g : Env → Res Bool} {r : Env} {b : Bool} (h : f r = .ok true) (h2 : g r = .ok b) : tAndD f g r = .ok b := by simp [h, h2]
theorem len_slot {i : Nat} {w : Bool} {o : O} {r : Env} {xs : List Int} (h : r[i]? = some (.vl w o)) (hx : asIL o = some xs) : eB gLen (aCons (eVar i) aNil) r = .ok (.nw (I xs.length)) := by
  rw [b1 (var_of h), see_a, gLen_IL hx]
theorem list_slot {i : Nat} {w : Bool} {o : O} {r : Env} {xs : List Int} (h : r[i]? = some (.vl w o)) (hx : asIL o = some xs) : eB gList (aCons (eVar i) aNil) r = .ok (.nw (nO xs)) := by
  rw [b1 (var_of h), see_a, gList_IL hx]
theorem er_nO (xs : List Int) : er (nO xs) = lD xs := by simp [ers_iL]
theorem put_nO (xs : List Int) : put false (.nw (nO xs)) = some (.vl true (lO xs)) := by rw [put_nwF, er_nO]
theorem ra_nO (xs : List Int) : (R.nw (nO xs)).a = lO xs := by rw [ra_nw, er_nO]
theorem sl_scr {f : FE} {l h : FP} {r : Env} {ns : List Int} {lo hi : Option Int} (h1 : f r = .ok (.nw (.fz (.scr ns)))) (h2 : l r = .ok lo) (h3 : h r = .ok hi) (hz : ns.length ≤ 100000) : eSl f l h r = .ok (.nw (nO (cutL ns lo hi))) := by
  have hl : (cutL ns lo hi).length ≤ 100000 := by
    unfold cutL
    rw [List.length_take, List.length_drop]; omega
  simp only [eSl, h1, h2, h3, res_ok, ra_nw, er_fz, items_scr, cutL_iL, lsR_iL hl]
theorem cutL_length {α : Type} (xs : List α) (lo hi : Option Int) : (cutL xs lo hi).length ≤ xs.length := by
  unfold cutL
  rw [List.length_take, List.length_drop]; omega
theorem put_last {i : Nat} {r : Env} {xs : List Int} {f g : FE} {v : Int} (h : r[i]? = some (.vl true (nO xs))) (h2 : f r = .ok (.nw (I v))) (h3 : g r = .ok (.nw (I (-1)))) (hj : 0 < xs.length) : sPut i f g r = .nx (r.set i (.vl true (nO (xs.set (xs.length - 1) v)))) := by
  have e : ixN (iL xs).length (-1) = some (xs.length - 1) := by
    unfold ixN
    rw [if_neg (by omega), if_pos (by rw [iL_length]; omega), iL_length]
    congr 1; omega
  simp only [sPut, sUse_ev, h2, onOwn, h, allFz_iL, if_true, h3, ra_nw, er_fz, e]
  rw [show nO (xs.set (xs.length - 1) v) = .ls ((iL xs).set (xs.length - 1) (I v)) by simp [iL, List.map_set]]
/-! loops and comprehensions over g 0 .. g (n - 1) -/
theorem for_gen {fg : FG} {F : FS} {g : Nat → R} {n : Nat} {r : Env} (P : Nat → Env → Prop) (h0 : P 0 r) (step : ∀ (i : Nat) (r : Env), i < n → P i r → ∃ r1 r', fg (g i) r = some r1 ∧ F r1 = .nx r' ∧ P (i + 1) r') : ∃ r', forL fg F ((List.range n).map g) r = .nx r' ∧ P n r' := by
  obtain ⟨r', h1, h2⟩ := forL_inv (fg := fg) (F := F) (its := (List.range n).map g) (r := r) P h0 (fun i x r hx hp => by
    have hi : i < n := by
      have := (List.getElem?_eq_some_iff.mp hx).1
      simpa using this
    simp [hi] at hx
    subst hx
    exact step i r hi hp)
  exact ⟨r', h1, by simpa using h2⟩
/-- a walk that perhaps hands something back at the first i with t i -/
theorem for_first {fg : FG} {F : FS} {g : Nat → R} {n : Nat} {r : Env} (P : Nat → Env → Prop) (t : Nat → Bool) (v : Nat → O) (h0 : P 0 r)
    (step : ∀ (i : Nat) (r : Env), i < n → P i r → ∃ r1, fg (g i) r = some r1 ∧ (t i = true → F r1 = .ret (v i)) ∧ (t i = false → ∃ r', F r1 = .nx r' ∧ P (i + 1) r')) :
    (∃ i, i < n ∧ t i = true ∧ (∀ j, j < i → t j = false) ∧ forL fg F ((List.range n).map g) r = .ret (v i)) ∨ ((∀ i, i < n → t i = false) ∧ ∃ r', forL fg F ((List.range n).map g) r = .nx r' ∧ P n r') := by
  have go : ∀ (m k : Nat) (r : Env), k + m = n → (∀ j, j < k → t j = false) → P k r → (∃ i, i < n ∧ t i = true ∧ (∀ j, j < i → t j = false) ∧ forL fg F ((List.range' k m).map g) r = .ret (v i)) ∨ ((∀ i, i < n → t i = false) ∧ ∃ r', forL fg F ((List.range' k m).map g) r = .nx r' ∧ P n r') := by
    intro m
    induction m with
    | zero =>
      intro k r hk hj hp
      have e : k = n := by omega
      subst e
      exact .inr ⟨hj, r, rfl, hp⟩
    | succ m ih =>
      intro k r hk hj hp
      obtain ⟨r1, e1, h1, h2⟩ := step k r (by omega) hp
      rw [List.range'_succ, List.map_cons]
      cases ht : t k with
      | true =>
        refine .inl ⟨k, by omega, ht, hj, ?_⟩
        unfold forL
        rw [e1]
        simp only [h1 ht]
      | false =>
        obtain ⟨r', e2, hp'⟩ := h2 ht
        rw [forL_cons e1 e2]
        refine ih (k + 1) r' (by omega) (fun j hjk => ?_) hp'
        by_cases e : j = k
        · rw [e]; exact ht
        · exact hj j (by omega)
  have h := go n 0 r (by omega) (fun j hj => by omega) h0
  rwa [← List.range_eq_range'] at h
theorem lc_gen {fg : FG} {f : FE} {r : Env} {g : Nat → R} {v : Nat → O} : ∀ (l : List Nat) (acc : List O), (∀ i ∈ l, ∃ r1, fg (g i) r = some r1 ∧ f r1 = .ok (.nw (v i))) → acc.length + l.length ≤ 100000 → lcL fg tYesD f r (l.map g) acc = .ok (.nw (.ls (acc ++ l.map v)))
  | [], acc, _, _ => by simp [lcL]
  | i :: l, acc, h, hl => by
    obtain ⟨r1, e1, e2⟩ := h i List.mem_cons_self
    simp only [List.length_cons] at hl
    have ih := lc_gen (fg := fg) (f := f) (r := r) (g := g) (v := v) l (acc ++ [v i]) (fun j hj => h j (List.mem_cons_of_mem _ hj)) (by simp; omega)
    simp only [List.map_cons]
    unfold lcL
    simp only [e1, e2, tYes_ev, newO]
    rw [if_pos (by omega), ih]
    simp
theorem lcD_gen {fi : Env → Res (List R)} {fg : FG} {vs : List Nat} {f : FE} {r : Env} {g : Nat → R} {v : Nat → O} {n : Nat} (hi : fi r = .ok ((List.range n).map g)) (hv : vs.all (· < r.length) = true) (h : ∀ i, i < n → ∃ r1, fg (g i) (wipeE r vs) = some r1 ∧ f r1 = .ok (.nw (v i))) (hn : n ≤ 100000) :
    eLcD fi fg vs tYesD f r = .ok (.nw (.ls ((List.range n).map v))) := by
  simp only [eLcD, hi, res_ok, hv, if_true]
  rw [lc_gen (v := v) (List.range n) [] (fun i hi => h i (by simpa using hi)) (by simpa using hn)]
  simp
theorem rngL_eq (n : Nat) : rngL 0 n = (List.range n).map fun (k : Nat) => intR (k : Int) := by
  unfold rngL
  refine List.map_congr_left fun k _ => ?_
  rw [Int.zero_add]
theorem rng_ok {fs : Env → Res (List O)} {r : Env} {n : Nat} (h : fs r = .ok [I n]) (hn : n ≤ 1000000) : iRng rng1 fs r = .ok ((List.range n).map fun (k : Nat) => intR (k : Int)) := by
  rw [iRng_ev, h, res_ok, rng1_ok (by omega) (by omega), Int.toNat_natCast, rngL_eq]
theorem app_IL {i : Nat} {r : Env} {xs : List Int} {f : FE} {v : Int} (h : r[i]? = some (.vl true (nO xs))) (h2 : f r = .ok (.nw (I v))) (hl : xs.length ≤ 100000) : sApp i f r = .nx (r.set i (.vl true (nO (xs ++ [v])))) := by
  have e : (iL xs).length ≤ 100000 := by simpa using hl
  simp only [sApp, onOwn, h, allFz_iL, if_true, sUse_ev, h2, ra_nw, er_fz, e]
  rw [show nO (xs ++ [v]) = .ls (iL xs ++ [I v]) by simp [iL]]
theorem put_IL {i : Nat} {r : Env} {xs : List Int} {f g : FE} {v k : Int} {j : Nat} (h : r[i]? = some (.vl true (nO xs))) (h2 : f r = .ok (.nw (I v))) (h3 : g r = .ok (.nw (I k))) (hk : k = (j : Int)) (hj : j < xs.length) : sPut i f g r = .nx (r.set i (.vl true (nO (xs.set j v)))) := by
  have e : ixN (iL xs).length k = some j := by
    unfold ixN
    rw [if_pos (by omega), if_pos (by rw [iL_length]; omega)]
    congr 1; omega
  simp only [sPut, sUse_ev, h2, onOwn, h, allFz_iL, if_true, h3, ra_nw, er_fz, e]
  rw [show nO (xs.set j v) = .ls ((iL xs).set j (I v)) by simp [iL, List.map_set]]
theorem range_set {n j : Nat} {f : Nat → Int} {v : Int} : ((List.range n).map f).set j v = (List.range n).map fun k => if k = j then v else f k := by
  refine List.ext_getElem? fun k => ?_
  rw [List.getElem?_set]
  simp only [List.length_map, List.length_range, List.getElem?_map]
  by_cases h : j = k
  · subst h
    by_cases hj : j < n
    · simp [hj]
    · simp [hj]
  · rw [if_neg h]
    by_cases hk : k < n
    · simp [hk, Ne.symm h]
    · simp [hk]
theorem range_snoc (n : Nat) (f : Nat → Int) : (List.range (n + 1)).map f = (List.range n).map f ++ [f n] := by
  rw [List.range_succ, List.map_append]; rfl
theorem list_eq_range (xs : List Int) : xs = (List.range xs.length).map fun k => xs.getD k 0 := by
  refine List.ext_getElem? fun k => ?_
  by_cases h : k < xs.length
  · simp [h]
  · simp [h]
theorem fzsOf_map (xs : List Int) : fzsOf (xs.map intR) = some (xs.map .int) := by
  induction xs with
  | nil => rfl
  | cons x xs ih =>
    simp only [List.map_cons, fzsOf, ih]
    rfl
theorem enum_IL {f : FE} {r : Env} {o : O} {xs : List Int} (h : f r = .ok (see false o)) (hx : asIL o = some xs) : iEnumD f r = .ok ((List.range xs.length).map fun (i : Nat) => tup2 (.int i) (.int (xs.getD i 0))) := by
  simp only [iEnumD, h, res_ok, its_IL hx, enumR, fzsOf_map]
  congr 1
  unfold enumL
  refine List.ext_getElem? fun k => ?_
  by_cases hk : k < xs.length
  · simp [List.getElem?_zipIdx, hk]
  · simp [List.getElem?_zipIdx, hk]
theorem tup2_set {i j : Nat} {a b : D} {r : Env} (hi : i < r.length) (hj : j < r.length) : gT [gN i, gN j] (tup2 a b) r = some ((r.set i (.vl true (.fz a))).set j (.vl true (.fz b))) := by
  simp [gT, tup2, gL, gN, hi, hj]
/-! polynomials: numbers, lowest first -/
def trim : List Int → List Int
  | [] => []
  | x :: xs => match trim xs with
    | [] => if x = 0 then [] else [x]
    | y :: ys => x :: y :: ys
def co (xs : List Int) (k : Nat) : Int := xs.getD k 0
@[simp] theorem co_nil (k : Nat) : co [] k = 0 := by simp [co]
@[simp] theorem co_zero (x : Int) (xs : List Int) : co (x :: xs) 0 = x := by simp [co]
@[simp] theorem co_succ (x : Int) (xs : List Int) (k : Nat) : co (x :: xs) (k + 1) = co xs k := by simp [co]
theorem co_lt {xs : List Int} {k : Nat} (h : k < xs.length) : co xs k = xs[k] := by
  unfold co
  rw [List.getD_eq_getElem?_getD, List.getElem?_eq_getElem h]; rfl
theorem co_ge {xs : List Int} {k : Nat} (h : xs.length ≤ k) : co xs k = 0 := by
  unfold co
  rw [List.getD_eq_getElem?_getD, List.getElem?_eq_none h]; rfl
theorem trim_nil_of : ∀ {ys : List Int}, (∀ k, co ys k = 0) → trim ys = []
  | [], _ => rfl
  | y :: ys, h => by
    have h0 := h 0
    simp at h0
    have := trim_nil_of (ys := ys) fun k => by simpa using h (k + 1)
    simp [trim, this, h0]
theorem trim_ext : ∀ {xs ys : List Int}, (∀ k, co xs k = co ys k) → trim xs = trim ys
  | [], ys, h => (trim_nil_of fun k => (by simpa using (h k).symm)).symm
  | x :: xs, [], h => trim_nil_of fun k => by simpa using h k
  | x :: xs, y :: ys, h => by
    have h0 : x = y := by simpa using h 0
    have ht := trim_ext (xs := xs) (ys := ys) fun k => by simpa using h (k + 1)
    subst h0
    simp only [trim, ht]
theorem co_trim : ∀ (xs : List Int) (k : Nat), co (trim xs) k = co xs k
  | [], k => rfl
  | x :: xs, k => by
    have ih := co_trim xs
    cases e : trim xs with
    | nil =>
      rw [e] at ih
      by_cases hx : x = 0
      · simp only [trim, e, hx, if_true]
        cases k with
        | zero => simp
        | succ k => simp; simpa using ih k
      · simp only [trim, e, hx, if_false]
        cases k with
        | zero => simp
        | succ k => simp; simpa using ih k
    | cons y ys =>
      rw [e] at ih
      simp only [trim, e]
      cases k with
      | zero => simp
      | succ k => simp only [co_succ]; exact ih k
theorem trim_trim (xs : List Int) : trim (trim xs) = trim xs := trim_ext (co_trim xs)
theorem trim_length_le : ∀ xs : List Int, (trim xs).length ≤ xs.length
  | [] => Nat.le_refl _
  | x :: xs => by
    have ih := trim_length_le xs
    cases e : trim xs with
    | nil =>
      simp only [trim, e]
      split <;> simp
    | cons y ys =>
      rw [e] at ih
      simp only [trim, e, List.length_cons] at ih ⊢
      omega
theorem ext_trim {xs ys : List Int} (hx : trim xs = xs) (hy : trim ys = ys) (h : ∀ k, co xs k = co ys k) : xs = ys := by
  rw [← hx, ← hy]; exact trim_ext h
theorem co_append (xs ys : List Int) (k : Nat) : co (xs ++ ys) k = if k < xs.length then co xs k else co ys (k - xs.length) := by
  unfold co
  rw [List.getD_eq_getElem?_getD, List.getD_eq_getElem?_getD, List.getD_eq_getElem?_getD, List.getElem?_append]
  split <;> rfl
theorem trim_snoc0 (xs : List Int) : trim (xs ++ [0]) = trim xs := trim_ext fun k => by
  rw [co_append]
  split
  · rfl
  · rename_i h
    rw [co_ge (xs := xs) (by omega)]
    cases hk : k - xs.length <;> simp
theorem trim_snoc : ∀ (xs : List Int) {x : Int}, x ≠ 0 → trim (xs ++ [x]) = xs ++ [x]
  | [], x, h => by simp [trim, h]
  | y :: ys, x, h => by
    have ih := trim_snoc ys h
    show trim (y :: (ys ++ [x])) = y :: (ys ++ [x])
    cases e : ys ++ [x] with
    | nil => simp at e
    | cons z zs =>
      rw [e] at ih
      rw [trim, ih]
theorem trim_take (xs : List Int) : xs.take (trim xs).length = trim xs := by
  have h : ∀ xs : List Int, xs.take (trim xs).length = trim xs := fun xs => by
    induction xs with
    | nil => rfl
    | cons x xs ih =>
      cases e : trim xs with
      | nil =>
        simp only [trim, e]
        split <;> simp
      | cons y ys =>
        rw [e] at ih
        simp only [trim, e, List.length_cons, List.take_succ_cons]
        rw [← ih]; simp
  exact h xs
/-- sum of f 0 .. f (n - 1) -/
def sumN : Nat → (Nat → Int) → Int
  | 0, _ => 0
  | n + 1, f => sumN n f + f n
theorem sumN_congr {f g : Nat → Int} : ∀ {n : Nat}, (∀ i, i < n → f i = g i) → sumN n f = sumN n g
  | 0, _ => rfl
  | n + 1, h => by rw [sumN, sumN, sumN_congr fun i hi => h i (by omega), h n (by omega)]
theorem sumN_zero {f : Nat → Int} : ∀ {n : Nat}, (∀ i, i < n → f i = 0) → sumN n f = 0
  | 0, _ => rfl
  | n + 1, h => by rw [sumN, sumN_zero fun i hi => h i (by omega), h n (by omega)]; rfl
theorem sumN_add (f g : Nat → Int) : ∀ n : Nat, sumN n (fun i => f i + g i) = sumN n f + sumN n g
  | 0 => rfl
  | n + 1 => by rw [sumN, sumN, sumN, sumN_add f g n]; omega
theorem sumN_mul (c : Int) (f : Nat → Int) : ∀ n : Nat, sumN n (fun i => c * f i) = c * sumN n f
  | 0 => by simp [sumN]
  | n + 1 => by rw [sumN, sumN, sumN_mul c f n, Int.mul_add]
/-- the numbers f 0 .. f (n - 1), as a polynomial -/
def nrm (n : Nat) (f : Nat → Int) : List Int := trim ((List.range n).map f)
theorem co_range (n : Nat) (f : Nat → Int) (k : Nat) : co ((List.range n).map f) k = if k < n then f k else 0 := by
  by_cases h : k < n
  · rw [if_pos h, co_lt (by simpa using h)]; simp
  · rw [if_neg h, co_ge (by simpa using h)]
theorem co_nrm (n : Nat) (f : Nat → Int) (k : Nat) : co (nrm n f) k = if k < n then f k else 0 := by
  unfold nrm; rw [co_trim, co_range]
theorem trim_nrm (n : Nat) (f : Nat → Int) : trim (nrm n f) = nrm n f := trim_trim _
def padd (xs ys : List Int) : List Int := nrm (max xs.length ys.length) fun k => co xs k + co ys k
def psub (xs ys : List Int) : List Int := nrm (max xs.length ys.length) fun k => co xs k - co ys k
def cvt (xs ys : List Int) (k i : Nat) : Int := if i ≤ k then co xs i * co ys (k - i) else 0
def pmul (xs ys : List Int) : List Int := nrm (xs.length + ys.length) fun k => sumN xs.length (cvt xs ys k)
theorem co_padd (xs ys : List Int) (k : Nat) : co (padd xs ys) k = co xs k + co ys k := by
  unfold padd; rw [co_nrm]
  split
  · rfl
  · rw [co_ge (xs := xs) (by omega), co_ge (xs := ys) (by omega)]; rfl
theorem co_psub (xs ys : List Int) (k : Nat) : co (psub xs ys) k = co xs k - co ys k := by
  unfold psub; rw [co_nrm]
  split
  · rfl
  · rw [co_ge (xs := xs) (by omega), co_ge (xs := ys) (by omega)]; rfl
theorem co_pmul (xs ys : List Int) (k : Nat) : co (pmul xs ys) k = sumN xs.length (cvt xs ys k) := by
  unfold pmul; rw [co_nrm]
  split
  · rfl
  · rename_i h
    refine (sumN_zero fun i hi => ?_).symm
    unfold cvt
    split
    · rw [co_ge (xs := ys) (by omega)]; simp
    · rfl
theorem psub_eq (xs ys : List Int) : padd xs (ys.map fun i => -i) = psub xs ys := by
  refine ext_trim (trim_nrm _ _) (trim_nrm _ _) fun k => ?_
  rw [co_padd, co_psub]
  have e : co (ys.map fun i => -i) k = -co ys k := by
    by_cases h : k < ys.length
    · rw [co_lt (by simpa using h), co_lt h]; simp
    · rw [co_ge (by simpa using h), co_ge (by omega)]; rfl
  rw [e]; omega
theorem intR_range (xs : List Int) : xs.map intR = (List.range xs.length).map fun k => intR (xs.getD k 0) := by
  conv => lhs; rw [list_eq_range xs]
  rw [List.map_map]; rfl
theorem iLst_bw {i : Nat} {r : Env} {o : O} {xs : List Int} (h : r[i]? = some (.vl false o)) (hx : asIL o = some xs) : iLst (eVar i) r = .ok ((List.range xs.length).map fun k => intR (xs.getD k 0)) := by
  rw [iLst, var_of h, res_ok, its_IL hx, intR_range]
theorem iLst_fz {i : Nat} {w : Bool} {r : Env} {xs : List Int} (h : r[i]? = some (.vl w (lO xs))) : iLst (eVar i) r = .ok ((List.range xs.length).map fun k => intR (xs.getD k 0)) := by
  rw [iLst, var_of h, res_ok, see_fz, its_nw (asIL_lst xs), intR_range]
theorem iLst_nw {f : FE} {r : Env} {o : O} {xs : List Int} (h : f r = .ok (.nw o)) (hx : asIL o = some xs) : iLst f r = .ok ((List.range xs.length).map fun k => intR (xs.getD k 0)) := by
  rw [iLst, h, res_ok, its_nw hx, intR_range]
theorem iRev_bw {i : Nat} {r : Env} {o : O} {xs : List Int} (h : r[i]? = some (.vl false o)) (hx : asIL o = some xs) : iRevD (eVar i) r = .ok (xs.map intR).reverse := by
  rw [iRevD, var_of h, res_ok, its_IL hx, res_ok]
theorem cat_IL {a b : O} {xs ys : List Int} (ha : asIL a = some xs) (hb : asIL b = some ys) (hl : xs.length + ys.length ≤ 100000) : gAddA a b = .ok (.nw (nO (xs ++ ys))) := by
  have e : gAddA a b = gCat a b := by rcases asIL_cases ha with rfl | rfl <;> rfl
  have s1 : isScr a = false := by rcases asIL_cases ha with rfl | rfl <;> rfl
  have s2 : isScr b = false := by rcases asIL_cases hb with rfl | rfl <;> rfl
  rw [e, gCat, s1, s2, asIL_items ha, asIL_items hb]
  simp only [Bool.or_self, Bool.false_eq_true, if_false]
  rw [← List.map_append, lsR_iL (by rw [List.length_append]; omega)]
theorem lc_map {fi : Env → Res (List R)} {fg : FG} {vs : List Nat} {f : FE} {r : Env} {xs : List Int} {g : Int → Int} (hi : fi r = .ok ((List.range xs.length).map fun k => intR (xs.getD k 0))) (hv : vs.all (· < r.length) = true) (h : ∀ x ∈ xs, ∃ r1, fg (intR x) (wipeE r vs) = some r1 ∧ f r1 = .ok (.nw (I (g x)))) (hn : xs.length ≤ 100000) :
    eLcD fi fg vs tYesD f r = .ok (.nw (nO (xs.map g))) := by
  rw [lcD_gen (v := fun k => I (g (xs.getD k 0))) hi hv (fun i hi => h _ (by
    rw [List.getD_eq_getElem?_getD, List.getElem?_eq_getElem hi]
    exact List.getElem_mem hi)) hn]
  have e : xs.map g = (List.range xs.length).map fun k => g (xs.getD k 0) := by
    conv => lhs; rw [list_eq_range xs]
    rw [List.map_map]; rfl
  rw [e]
  simp only [nO, iL, List.map_map]
  rfl
theorem ix_ls {i j : Nat} {k : Int} {g : FE} {r : Env} {os : List O} {d : D} (h : r[i]? = some (.vl true (.ls os))) (h2 : g r = .ok (.nw (I k))) (hk : k = (j : Int)) (hd : os[j]? = some (.fz d)) : eIx (eVar i) g r = .ok (.nw (.fz d)) := by
  have e : ixO (.ls os) k = some (.fz d) := atI_ok (by omega) (by rw [show k.toNat = j by omega]; exact hd)
  rw [ix_vw (var_of h) h2 e]; rfl
theorem ix_fl {i j : Nat} {k : Int} {w : Bool} {g : FE} {r : Env} {ds : List D} {d : D} (h : r[i]? = some (.vl w (.fz (.lst ds)))) (h2 : g r = .ok (.nw (I k))) (hk : k = (j : Int)) (hd : ds[j]? = some d) : eIx (eVar i) g r = .ok (.nw (.fz d)) := by
  have e : ixO (.fz (.lst ds)) k = some (.fz d) := by
    show atI (ds.map O.fz) k = _
    exact atI_ok (by omega) (by rw [show k.toNat = j by omega]; simp [hd])
  exact ix_nw (var_of h) h2 e
theorem app_ls {i : Nat} {r : Env} {os : List O} {f : FE} {x : R} {d : D} (h : r[i]? = some (.vl true (.ls os))) (hf : allFz os = true) (h2 : f r = .ok x) (hx : x.a = .fz d) (hl : os.length ≤ 100000) : sApp i f r = .nx (r.set i (.vl true (.ls (os ++ [.fz d])))) := by
  simp only [sApp, onOwn, h, hf, if_true, sUse_ev, h2, hx, hl]
theorem mem_trim {xs : List Int} {x : Int} (h : x ∈ trim xs) : x ∈ xs := by
  rw [← trim_take xs] at h
  exact List.mem_of_mem_take h
theorem mem_stepL {α : Type} {xs : List α} {lo hi st : Option Int} {x : α} (h : x ∈ stepL xs lo hi st) : x ∈ xs := by
  unfold stepL at h
  obtain ⟨i, _, hi⟩ := List.mem_filterMap.mp h
  exact List.mem_of_getElem? hi
theorem stepL_length {α : Type} (xs : List α) (lo hi st : Option Int) : (stepL xs lo hi st).length ≤ xs.length := by
  have e : (stepL (xs.map fun _ => PySem.Value.none) lo hi st).length = (stepL xs lo hi st).length := by
    unfold stepL
    simp only [List.length_map]
    generalize PySem.sliceRange _ _ _ = ix
    induction ix with
    | nil => rfl
    | cons i ix ih =>
      cases e : xs[i]? with
      | none => rw [List.filterMap_cons_none e, List.filterMap_cons_none (by simp [e]), ih]
      | some x => rw [List.filterMap_cons_some e, List.filterMap_cons_some (b := PySem.Value.none) (by simp [e])]; simp only [List.length_cons, ih]
  have h := PySem.slicePick_size_le (xs.map fun _ => PySem.Value.none).toArray lo hi st
  have e2 : (PySem.slicePick (xs.map fun _ => PySem.Value.none).toArray lo hi st).size = (stepL (xs.map fun _ => PySem.Value.none) lo hi st).length := by
    unfold PySem.slicePick stepL
    simp
  rw [e2, e] at h
  simpa using h
theorem rep_zero (n : Nat) (f : Nat → Int) (hf : ∀ k, f k = 0) : repL [I 0] n = iL ((List.range n).map f) := by
  induction n with
  | zero => rfl
  | succ n ih =>
    rw [range_snoc, hf]
    unfold repL at ih ⊢
    rw [List.replicate_succ', List.flatten_append, ih]
    simp [iL]
theorem zeros_ok {k : Int} {n : Nat} (hk : k = (n : Int)) (hn : n ≤ 100000) (f : Nat → Int) (hf : ∀ k, f k = 0) : gMulA (.fz (.lst [.int 0])) (I k) = .ok (.nw (nO ((List.range n).map f))) := by
  subst hk
  have hs : small62 (n : Int) = true := decide_eq_true ⟨by omega, by omega⟩
  rw [gMulA_lst]
  have ht : ((n : Nat) : Int).toNat = n := by omega
  simp only [gRep, isScr, hs, Bool.not_true, Bool.or_self, Bool.false_eq_true, if_false, items_lst_ev, List.map_cons, List.map_nil, List.length_cons, List.length_nil, ht]
  rw [if_pos (by omega), rep_zero n f hf, lsR_iL (by simp; omega)]
theorem zero1 (r : Env) : eLst (aCons (eC (.int 0)) aNil) r = .ok (.nw (nO [0])) := by simp [eLst, allFz, iL]
/-- numbers with room for products -/
def smL (xs : List Int) : Bool := xs.all fun i => decide (i.natAbs.log2 < 400000)
theorem sm_co {xs : List Int} (h : smL xs = true) (k : Nat) : (co xs k).natAbs.log2 < 400000 := by
  by_cases hk : k < xs.length
  · rw [co_lt hk]
    exact of_decide_eq_true (List.all_eq_true.mp h _ (List.getElem_mem hk))
  · rw [co_ge (by omega)]; decide
theorem sm_mul {i j : Int} (h1 : i.natAbs.log2 < 400000) (h2 : j.natAbs.log2 < 400000) : gMulA (.fz (.int i)) (.fz (.int j)) = .ok (.nw (.fz (.int (i * j)))) := gMul_ev (by omega)
theorem sm_lt {xs : List Int} (b : Nat) (h0 : 0 < b) (hb : b ≤ 400000) (h : ∀ x ∈ xs, x.natAbs < 2 ^ b) : smL xs = true := by
  refine List.all_eq_true.mpr fun x hx => decide_eq_true ?_
  have := PySem.Flt.log2_lt_of h0 (h x hx)
  omega
theorem sm_sub {xs ys : List Int} (h : smL xs = true) (hs : ∀ x ∈ ys, x ∈ xs) : smL ys = true := List.all_eq_true.mpr fun x hx => List.all_eq_true.mp h x (hs x hx)
/-- the value at n -/
def pev (n : Int) : List Int → Int
  | [] => 0
  | x :: xs => pev n xs * n + x
/-- all numbers have fewer than b bits -/
def BL (b : Nat) (xs : List Int) : Prop := ∀ x ∈ xs, x.natAbs < 2 ^ b
theorem BL.tail {b : Nat} {x : Int} {xs : List Int} (h : BL b (x :: xs)) : BL b xs := fun y hy => h y (List.mem_cons_of_mem _ hy)
theorem BL.head {b : Nat} {x : Int} {xs : List Int} (h : BL b (x :: xs)) : x.natAbs < 2 ^ b := h x List.mem_cons_self
theorem BL.up {b d : Nat} {xs : List Int} (h : BL b xs) (hd : b ≤ d) : BL d xs := fun y hy => lt_up (h y hy) hd
def bitB (b : Nat) (xs : List Int) : Bool := xs.all fun i => decide (i.natAbs.log2 < b)
theorem bitB_iff {b : Nat} {xs : List Int} (h : bitB b xs = true) : BL b xs := fun x hx => lt_of_log2 (of_decide_eq_true (List.all_eq_true.mp h x hx))
theorem bitB_of {b : Nat} {xs : List Int} (h0 : 0 < b) (h : BL b xs) : bitB b xs = true := List.all_eq_true.mpr fun x hx => decide_eq_true (log2_of_lt h0 (h x hx))
theorem pev_lt {a c : Nat} {n : Int} (hn : n.natAbs < 2 ^ c) : ∀ {xs : List Int}, BL a xs → (pev n xs).natAbs < 2 ^ (a + (c + 1) * xs.length)
  | [], _ => by simp [pev]; exact Nat.two_pow_pos a
  | x :: xs, h => by
    have ih := pev_lt (a := a) hn (xs := xs) h.tail
    have h1 := natAbs_mul_lt ih hn (Nat.le_refl _)
    have e : (c + 1) * (x :: xs).length = (c + 1) * xs.length + (c + 1) := by rw [List.length_cons, Nat.mul_add, Nat.mul_one]
    rw [e]
    exact natAbs_add_lt (m := a + (c + 1) * xs.length + c) h1 (lt_up h.head (by omega)) (by omega)
theorem sumN_shift (f : Nat → Int) : ∀ n : Nat, sumN (n + 1) f = f 0 + sumN n fun i => f (i + 1)
  | 0 => by simp [sumN]
  | n + 1 => by rw [sumN, sumN_shift f n, sumN]; omega
theorem pev_sum (n : Int) : ∀ xs : List Int, pev n xs = sumN xs.length fun i => co xs i * n ^ i
  | [] => rfl
  | x :: xs => by
    rw [List.length_cons, sumN_shift, pev, pev_sum n xs]
    simp only [co_zero, Int.pow_zero, Int.mul_one, co_succ]
    rw [Int.add_comm]
    congr 1
    rw [Int.mul_comm, ← sumN_mul]
    exact sumN_congr fun i _ => by rw [Int.pow_succ, Int.mul_comm (n ^ i) n, ← Int.mul_assoc, ← Int.mul_assoc, Int.mul_comm n]
/-- polynomials of one value at all great places are one -/
theorem pev_zero : ∀ {ds : List Int} (N : Nat), (∀ n : Int, (N : Int) < n → pev n ds = 0) → ∀ x ∈ ds, x = 0
  | [], _, _ => fun x hx => nomatch hx
  | d :: ds, N, h => by
    have h0 : d = 0 := by
      have h1 := h ((N : Int) + d.natAbs + 1) (by omega)
      rw [pev] at h1
      have h2 : ((N : Int) + d.natAbs + 1) ∣ d := ⟨-(pev ((N : Int) + d.natAbs + 1) ds), by rw [Int.mul_neg, Int.mul_comm]; omega⟩
      have h3 : ((N : Int) + d.natAbs + 1).natAbs ∣ d.natAbs := Int.natAbs_dvd_natAbs.mpr h2
      by_cases hd : d = 0
      · exact hd
      · have h4 := Nat.le_of_dvd (by omega) h3
        omega
    have ht : ∀ n : Int, (N : Int) < n → pev n ds = 0 := fun n hn => by
      have h1 := h n hn
      rw [pev, h0, Int.add_zero] at h1
      rcases Int.mul_eq_zero.mp h1 with e | e
      · exact e
      · omega
    intro x hx
    rcases List.mem_cons.mp hx with e | e
    · rw [e, h0]
    · exact pev_zero N ht x e
theorem pev_sub_len (n : Int) : ∀ {xs ys : List Int}, xs.length = ys.length → pev n (List.zipWith (fun a b => a - b) xs ys) = pev n xs - pev n ys
  | [], [], _ => rfl
  | [], _ :: _, h => by simp at h
  | _ :: _, [], h => by simp at h
  | x :: xs, y :: ys, h => by
    rw [List.zipWith_cons_cons, pev, pev, pev, pev_sub_len n (by simpa using h), Int.sub_mul]
    omega
theorem pev_inj {xs ys : List Int} (N : Nat) (hl : xs.length = ys.length) (h : ∀ n : Int, (N : Int) < n → pev n xs = pev n ys) : xs = ys := by
  have hz := pev_zero (ds := List.zipWith (fun a b => a - b) xs ys) N fun n hn => by rw [pev_sub_len n hl, h n hn, Int.sub_self]
  refine List.ext_getElem hl fun i h1 h2 => ?_
  have := hz (xs[i] - ys[i]) (by
    refine List.mem_iff_getElem.mpr ⟨i, by simp; omega, by simp⟩)
  omega
def valOk (xs : List Int) (n : Int) : Bool := decide (xs.length ≤ 1000) && (bitB 100000 xs && decide (n.natAbs < 2 ^ 500))
theorem valOk_of {xs : List Int} {n : Int} (a : Nat) (h0 : 0 < a) (ha : a ≤ 100000) (hl : xs.length ≤ 1000) (hx : BL a xs) (hn : n.natAbs < 2 ^ 500) : valOk xs n = true := by
  unfold valOk
  rw [decide_eq_true hl, bitB_of (by omega) (hx.up ha), decide_eq_true hn]; rfl
theorem valOk_iff {xs : List Int} {n : Int} (h : valOk xs n = true) : xs.length ≤ 1000 ∧ BL 100000 xs ∧ n.natAbs < 2 ^ 500 := by
  unfold valOk at h
  simp only [Bool.and_eq_true, decide_eq_true_eq] at h
  exact ⟨h.1, bitB_iff h.2.1, h.2.2⟩
theorem sumN_lt {m : Nat} {f : Nat → Int} : ∀ {n : Nat}, (∀ i, i < n → (f i).natAbs < 2 ^ m) → (sumN n f).natAbs < 2 ^ (m + n)
  | 0, _ => by simp [sumN]; exact Nat.two_pow_pos m
  | n + 1, h => by
    have ih := sumN_lt (m := m) (f := f) (n := n) fun i hi => h i (by omega)
    rw [sumN]
    exact natAbs_add_lt ih (lt_up (h n (by omega)) (by omega)) (by omega)
theorem co_lt2 {b : Nat} {xs : List Int} (h : BL b xs) (k : Nat) : (co xs k).natAbs < 2 ^ b := by
  by_cases hk : k < xs.length
  · rw [co_lt hk]; exact h _ (List.getElem_mem hk)
  · rw [co_ge (by omega)]; exact Nat.two_pow_pos b
def convG (xs ys : List Int) (i j k : Nat) : Int := sumN i (cvt xs ys k) + if i ≤ k ∧ k < i + j then co xs i * co ys (k - i) else 0
theorem convG_next (xs ys : List Int) (i k : Nat) : convG xs ys i ys.length k = convG xs ys (i + 1) 0 k := by
  unfold convG
  rw [sumN, cvt, if_neg (show ¬ (i + 1 ≤ k ∧ k < i + 1 + 0) by omega), Int.add_zero]
  congr 1
  by_cases h : i ≤ k
  · by_cases h2 : k < i + ys.length
    · rw [if_pos ⟨h, h2⟩, if_pos h]
    · rw [if_neg (by omega), if_pos h, co_ge (xs := ys) (by omega), Int.mul_zero]
  · rw [if_neg (by omega), if_neg h]
theorem convG_step (xs ys : List Int) (i j k : Nat) : convG xs ys i (j + 1) k = if k = i + j then convG xs ys i j (i + j) + co xs i * co ys j else convG xs ys i j k := by
  unfold convG
  by_cases h : k = i + j
  · subst h
    rw [if_pos rfl, if_pos (by omega), if_neg (by omega), show i + j - i = j by omega]
    omega
  · rw [if_neg h]
    congr 1
    by_cases h2 : i ≤ k ∧ k < i + j
    · rw [if_pos h2, if_pos (by omega)]
    · rw [if_neg h2, if_neg (by omega)]
theorem lcL_filter {fg : FG} {ft : Env → Res Bool} {f : FE} {r : Env} {t : Int → Bool} : ∀ (xs acc : List Int), (∀ x ∈ xs, ∃ r1, fg (intR x) r = some r1 ∧ ft r1 = .ok (t x) ∧ f r1 = .ok (.nw (I x))) → acc.length + xs.length ≤ 100000 → lcL fg ft f r (xs.map intR) (iL acc) = .ok (.nw (nO (acc ++ xs.filter t)))
  | [], acc, _, _ => by simp [lcL]
  | x :: xs, acc, h, hl => by
    obtain ⟨r1, e1, e2, e3⟩ := h x List.mem_cons_self
    simp only [List.length_cons] at hl
    simp only [List.map_cons]
    unfold lcL
    cases ht : t x with
    | true =>
      have ih := lcL_filter (fg := fg) (ft := ft) (f := f) (r := r) (t := t) xs (acc ++ [x]) (fun y hy => h y (List.mem_cons_of_mem _ hy)) (by simp; omega)
      simp only [e1, e2, e3, ht, newO]
      rw [if_pos (by simp; omega), show iL acc ++ [I x] = iL (acc ++ [x]) by simp [iL], ih, List.filter_cons_of_pos ht]
      simp
    | false =>
      have ih := lcL_filter (fg := fg) (ft := ft) (f := f) (r := r) (t := t) xs acc (fun y hy => h y (List.mem_cons_of_mem _ hy)) (by omega)
      simp only [e1, e2, ht]
      rw [ih, List.filter_cons_of_neg (by rw [ht]; decide)]
theorem lc_filter {fi : Env → Res (List R)} {fg : FG} {vs : List Nat} {ft : Env → Res Bool} {f : FE} {r : Env} {xs : List Int} {t : Int → Bool} (hi : fi r = .ok ((List.range xs.length).map fun k => intR (xs.getD k 0))) (hv : vs.all (· < r.length) = true) (h : ∀ x ∈ xs, ∃ r1, fg (intR x) (wipeE r vs) = some r1 ∧ ft r1 = .ok (t x) ∧ f r1 = .ok (.nw (I x))) (hn : xs.length ≤ 100000) :
    eLcD fi fg vs ft f r = .ok (.nw (nO (xs.filter t))) := by
  rw [← intR_range] at hi
  simp only [eLcD, hi, res_ok, hv, if_true]
  exact (lcL_filter xs [] h (by simpa using hn)).trans (by simp)
/-! products and quotients, as functions of the place -/
def mulc (xs ys : List Int) (k : Nat) : Int := sumN xs.length (cvt xs ys k)
def cv (u g : Nat → Int) (k : Nat) : Int := sumN (k + 1) fun i => u i * g (k - i)
theorem sumN_more {f : Nat → Int} {n : Nat} : ∀ m : Nat, (∀ i, n ≤ i → f i = 0) → sumN (n + m) f = sumN n f
  | 0, _ => rfl
  | m + 1, h => by
    show sumN (n + m) f + f (n + m) = _
    rw [sumN_more m h, h _ (by omega)]; omega
theorem mulc_cv (xs ys : List Int) (k : Nat) : mulc xs ys k = cv (co xs) (co ys) k := by
  unfold mulc cv
  have e1 : sumN (xs.length + (k + 1)) (cvt xs ys k) = sumN xs.length (cvt xs ys k) := sumN_more _ fun i hi => by
    unfold cvt
    split
    · rw [co_ge hi]; simp
    · rfl
  have e2 : sumN (k + 1 + xs.length) (cvt xs ys k) = sumN (k + 1) (cvt xs ys k) := sumN_more _ fun i hi => by
    unfold cvt; rw [if_neg (by omega)]
  rw [← e1, Nat.add_comm, e2]
  exact sumN_congr fun i hi => by unfold cvt; rw [if_pos (by omega)]
theorem sumN_single {f : Nat → Int} {a : Nat} : ∀ {n : Nat}, a < n → (∀ i, i < n → i ≠ a → f i = 0) → sumN n f = f a
  | 0, h, _ => by omega
  | n + 1, h, hz => by
    rw [sumN]
    by_cases ha : a = n
    · subst ha
      rw [sumN_zero fun i hi => hz i (by omega) (by omega)]; omega
    · rw [sumN_single (n := n) (by omega) fun i hi => hz i (by omega), hz n (by omega) (by omega)]; omega
theorem sumN_rev (f : Nat → Int) : ∀ n : Nat, sumN n f = sumN n fun i => f (n - 1 - i)
  | 0 => rfl
  | n + 1 => by
    rw [sumN_shift (fun i => f (n + 1 - 1 - i)) n]
    have e : (fun i => f (n + 1 - 1 - (i + 1))) = fun i => f (n - 1 - i) := by
      funext i; congr 1; omega
    rw [e, ← sumN_rev f n, sumN]
    simp
    omega
theorem cv_comm (u g : Nat → Int) (k : Nat) : cv u g k = cv g u k := by
  unfold cv
  rw [sumN_rev]
  refine sumN_congr fun i hi => ?_
  rw [show k + 1 - 1 - i = k - i by omega, show k - (k - i) = i by omega, Int.mul_comm]
theorem cv_sub (u v g : Nat → Int) (k : Nat) : cv (fun i => u i - v i) g k = cv u g k - cv v g k := by
  unfold cv
  have h : sumN (k + 1) (fun i => (u i - v i) * g (k - i)) + sumN (k + 1) (fun i => v i * g (k - i)) = sumN (k + 1) fun i => u i * g (k - i) := by
    rw [← sumN_add]
    exact sumN_congr fun i _ => by rw [Int.sub_mul]; omega
  simp only at h ⊢
  omega
theorem cv_mul (c : Int) (u g : Nat → Int) (k : Nat) : cv (fun i => c * u i) g k = c * cv u g k := by
  unfold cv
  rw [← sumN_mul]
  exact sumN_congr fun i _ => by rw [Int.mul_assoc]
theorem cv_top {u g : Nat → Int} {n i : Nat} (hu : ∀ j, i < j → u j = 0) (hg : ∀ j, n < j → g j = 0) : cv u g (i + n) = u i * g n := by
  unfold cv
  rw [sumN_single (a := i) (by omega) fun j hj hne => ?_, show i + n - i = n by omega]
  by_cases h : i < j
  · rw [hu j h, Int.zero_mul]
  · rw [hg (i + n - j) (by omega), Int.mul_zero]
/-- where the product is nought from k + n on, the first factor is so from k on -/
theorem cv_zero {u g : Nat → Int} {n k B : Nat} (hB : ∀ j, B ≤ j → u j = 0) (hg : ∀ j, n < j → g j = 0) (h0 : g n ≠ 0) (hz : ∀ i, k + n ≤ i → cv u g i = 0) : ∀ i, k ≤ i → u i = 0 := by
  have go : ∀ d i, B ≤ i + d → k ≤ i → u i = 0 := by
    intro d
    induction d with
    | zero => intro i h _; exact hB i (by omega)
    | succ d ih =>
      intro i h hk
      have h1 := cv_top (u := u) (g := g) (n := n) (i := i) (fun j hj => ih j (by omega) (by omega)) hg
      rw [hz (i + n) (by omega)] at h1
      rcases Int.mul_eq_zero.mp h1.symm with e | e
      · exact e
      · exact absurd e h0
  exact fun i hi => go B i (by omega) hi
/-- xs is q times ds -/
def PD (xs ds q : List Int) : Prop := ∀ k, co xs k = mulc q ds k
open Classical in
noncomputable def quo (xs ds : List Int) : Option (List Int) := if h : ∃ q, PD xs ds q then some (trim h.choose) else none
theorem PD_unique {xs ds p q : List Int} (h0 : co ds (ds.length - 1) ≠ 0) (hp : PD xs ds p) (hq : PD xs ds q) : ∀ k, co p k = co q k := by
  have hz : ∀ i, 0 + (ds.length - 1) ≤ i → cv (fun i => co p i - co q i) (co ds) i = 0 := fun i _ => by
    rw [cv_sub, ← mulc_cv, ← mulc_cv, ← hp i, ← hq i]; omega
  have := cv_zero (u := fun i => co p i - co q i) (g := co ds) (n := ds.length - 1) (k := 0) (B := max p.length q.length) (fun j hj => by rw [co_ge (xs := p) (by omega), co_ge (xs := q) (by omega)]; rfl) (fun j hj => co_ge (by omega)) h0 hz
  intro k
  have := this k (by omega)
  omega
theorem quo_some {xs ds q : List Int} (h0 : co ds (ds.length - 1) ≠ 0) (h : PD xs ds q) : quo xs ds = some (trim q) := by
  unfold quo
  have hx : ∃ q, PD xs ds q := ⟨q, h⟩
  rw [dif_pos hx]
  congr 1
  exact trim_ext (PD_unique h0 hx.choose_spec h)
theorem quo_none {xs ds : List Int} (h : ¬ ∃ q, PD xs ds q) : quo xs ds = none := by
  unfold quo
  rw [dif_neg h]
/-! the way of the program -/
def subAt (rest : List Int) (a : Nat) (m : Int) (ds : List Int) (j : Nat) : List Int := (List.range rest.length).map fun i => co rest i - if a ≤ i ∧ i < a + j then m * co ds (i - a) else 0
theorem co_subAt (rest : List Int) (a : Nat) (m : Int) (ds : List Int) (h : a + ds.length ≤ rest.length) (i : Nat) : co (subAt rest a m ds ds.length) i = co rest i - if a ≤ i then m * co ds (i - a) else 0 := by
  unfold subAt
  rw [co_range]
  by_cases hi : i < rest.length
  · rw [if_pos hi]
    congr 1
    by_cases h1 : a ≤ i
    · by_cases h2 : i < a + ds.length
      · rw [if_pos ⟨h1, h2⟩, if_pos h1]
      · rw [if_neg (by omega), if_pos h1, co_ge (xs := ds) (by omega), Int.mul_zero]
    · rw [if_neg (by omega), if_neg h1]
  · rw [if_neg hi, co_ge (xs := rest) (by omega)]
    split
    · rw [co_ge (xs := ds) (by omega)]; simp
    · rfl
/-- what is taken at step t, F places wanted -/
def qmany (ds : List Int) (F t : Nat) (rest : List Int) : Int := (co rest (F - 1 - t + (ds.length - 1))).fdiv (co ds (ds.length - 1))
def qrest (xs ds : List Int) (F : Nat) : Nat → List Int
  | 0 => xs
  | t + 1 => subAt (qrest xs ds F t) (F - 1 - t) (qmany ds F t (qrest xs ds F t)) ds ds.length
def qfound (xs ds : List Int) (F : Nat) : Nat → List Int
  | 0 => (List.range F).map fun _ => 0
  | t + 1 => (qfound xs ds F t).set (F - 1 - t) (qmany ds F t (qrest xs ds F t))
def qbad (xs ds : List Int) (F t : Nat) : Bool := decide ((co (qrest xs ds F t) (F - 1 - t + (ds.length - 1))).fmod (co ds (ds.length - 1)) ≠ 0)
theorem qrest_length (xs ds : List Int) (F : Nat) : ∀ t, (qrest xs ds F t).length = xs.length
  | 0 => rfl
  | t + 1 => by simp [qrest, subAt, qrest_length xs ds F t]
theorem qfound_length (xs ds : List Int) (F : Nat) : ∀ t, (qfound xs ds F t).length = F
  | 0 => by simp [qfound]
  | t + 1 => by simp [qfound, qfound_length xs ds F t]
theorem co_set {xs : List Int} {a : Nat} {v : Int} (h : a < xs.length) (i : Nat) : co (xs.set a v) i = if i = a then v else co xs i := by
  unfold co
  rw [List.getD_eq_getElem?_getD, List.getD_eq_getElem?_getD, List.getElem?_set]
  by_cases hi : i = a
  · subst hi; simp [h]
  · rw [if_neg (Ne.symm hi), if_neg hi]
/-- what holds ahead of step t -/
structure QInv (xs ds : List Int) (F t : Nat) : Prop where
  sum : ∀ i, co xs i = co (qrest xs ds F t) i + mulc (qfound xs ds F t) ds i
  low : ∀ i, i < F - t → co (qfound xs ds F t) i = 0
  top : ∀ i, F - t + (ds.length - 1) ≤ i → co (qrest xs ds F t) i = 0
theorem qinv0 {xs ds : List Int} {F : Nat} (hF : xs.length ≤ F + (ds.length - 1)) : QInv xs ds F 0 where
  sum := fun i => by
    have : mulc (qfound xs ds F 0) ds i = 0 := by
      rw [mulc_cv]
      unfold cv
      refine sumN_zero fun j _ => ?_
      have : co (qfound xs ds F 0) j = 0 := by
        show co ((List.range F).map fun _ => (0 : Int)) j = 0
        rw [co_range]; split <;> rfl
      rw [this, Int.zero_mul]
    rw [this]; show co xs i = co xs i + 0; omega
  low := fun i _ => by
    show co ((List.range F).map fun _ => (0 : Int)) i = 0
    rw [co_range]; split <;> rfl
  top := fun i hi => co_ge (by show xs.length ≤ i; omega)
theorem qinv_next {xs ds : List Int} {F t : Nat} (hn : 0 < ds.length) (h0 : co ds (ds.length - 1) ≠ 0) (ht : t < F) (hF : F + (ds.length - 1) = xs.length) (h : QInv xs ds F t) (hb : qbad xs ds F t = false) : QInv xs ds F (t + 1) := by
  have hm : co (qrest xs ds F t) (F - 1 - t + (ds.length - 1)) = qmany ds F t (qrest xs ds F t) * co ds (ds.length - 1) := by
    have hb' := of_decide_eq_false hb
    simp only [ne_eq, Decidable.not_not] at hb'
    have := Int.mul_fdiv_add_fmod (co (qrest xs ds F t) (F - 1 - t + (ds.length - 1))) (co ds (ds.length - 1))
    rw [hb'] at this
    unfold qmany
    rw [Int.mul_comm]; omega
  have hr : ∀ i, co (qrest xs ds F (t + 1)) i = co (qrest xs ds F t) i - if F - 1 - t ≤ i then qmany ds F t (qrest xs ds F t) * co ds (i - (F - 1 - t)) else 0 := fun i =>
    co_subAt _ _ _ _ (by rw [qrest_length]; omega) i
  have hf : ∀ i, co (qfound xs ds F (t + 1)) i = if i = F - 1 - t then qmany ds F t (qrest xs ds F t) else co (qfound xs ds F t) i := fun i => co_set (by rw [qfound_length]; omega) i
  refine ⟨fun i => ?_, fun i hi => ?_, fun i hi => ?_⟩
  · have hs := h.sum i
    have hq : mulc (qfound xs ds F (t + 1)) ds i = mulc (qfound xs ds F t) ds i + if F - 1 - t ≤ i then qmany ds F t (qrest xs ds F t) * co ds (i - (F - 1 - t)) else 0 := by
      rw [mulc_cv, mulc_cv]
      have hd : cv (fun j => co (qfound xs ds F (t + 1)) j - co (qfound xs ds F t) j) (co ds) i = if F - 1 - t ≤ i then qmany ds F t (qrest xs ds F t) * co ds (i - (F - 1 - t)) else 0 := by
        have hz : ∀ j, co (qfound xs ds F (t + 1)) j - co (qfound xs ds F t) j = if j = F - 1 - t then qmany ds F t (qrest xs ds F t) else 0 := fun j => by
          rw [hf]
          split
          · rename_i e
            rw [e, h.low (F - 1 - t) (by omega)]; omega
          · omega
        unfold cv
        by_cases h1 : F - 1 - t ≤ i
        · rw [if_pos h1, sumN_single (a := F - 1 - t) (by omega) fun j _ hj => by simp only [hz, if_neg hj, Int.zero_mul]]
          simp only [hz, if_true]
        · rw [if_neg h1]
          exact sumN_zero fun j hj => by simp only [hz, if_neg (show ¬ j = F - 1 - t by omega), Int.zero_mul]
      rw [cv_sub] at hd
      omega
    rw [hr, hq]; omega
  · rw [hf, if_neg (by omega)]
    exact h.low i (by omega)
  · rw [hr]
    by_cases h1 : F - t + (ds.length - 1) ≤ i
    · rw [h.top i h1, co_ge (xs := ds) (by omega)]; simp
    · have e : i = F - 1 - t + (ds.length - 1) := by omega
      rw [if_pos (by omega), e, hm, show F - 1 - t + (ds.length - 1) - (F - 1 - t) = ds.length - 1 by omega]
      omega
/-- what would be divided is divided -/
theorem q_ok {xs ds q : List Int} {F t : Nat} (h0 : co ds (ds.length - 1) ≠ 0) (h : QInv xs ds F t) (hq : PD xs ds q) : (∀ i, F - t ≤ i → co q i = co (qfound xs ds F t) i) ∧ ∀ i, co (qrest xs ds F t) i = cv (fun j => co q j - co (qfound xs ds F t) j) (co ds) i := by
  have hr : ∀ i, co (qrest xs ds F t) i = cv (fun j => co q j - co (qfound xs ds F t) j) (co ds) i := fun i => by
    rw [cv_sub, ← mulc_cv, ← mulc_cv, ← hq i, h.sum i]; omega
  refine ⟨fun i hi => ?_, hr⟩
  have := cv_zero (u := fun j => co q j - co (qfound xs ds F t) j) (g := co ds) (n := ds.length - 1) (k := F - t) (B := max q.length (qfound xs ds F t).length) (fun j hj => by rw [co_ge (xs := q) (by omega), co_ge (by omega)]; rfl) (fun j hj => co_ge (by omega)) h0 (fun i hi => by rw [← hr]; exact h.top i hi) i hi
  omega
theorem q_notbad {xs ds q : List Int} {F t : Nat} (h0 : co ds (ds.length - 1) ≠ 0) (ht : t < F) (h : QInv xs ds F t) (hq : PD xs ds q) : qbad xs ds F t = false := by
  obtain ⟨h1, h2⟩ := q_ok h0 h hq
  have e := h2 (F - 1 - t + (ds.length - 1))
  rw [cv_top (i := F - 1 - t) (fun j hj => by rw [h1 j (by omega)]; omega) (fun j hj => co_ge (by omega))] at e
  refine decide_eq_false ?_
  simp only [ne_eq, Decidable.not_not]
  rw [e, Int.mul_fmod_left]
theorem q_end {xs ds : List Int} {F : Nat} (h0 : co ds (ds.length - 1) ≠ 0) (h : QInv xs ds F F) (hz : ∀ i, co (qrest xs ds F F) i = 0) : PD xs ds (qfound xs ds F F) := fun k => by
  rw [h.sum k, hz k]; omega
theorem q_rest {xs ds q : List Int} {F : Nat} (h0 : co ds (ds.length - 1) ≠ 0) (h : QInv xs ds F F) (hq : PD xs ds q) : ∀ i, co (qrest xs ds F F) i = 0 := fun i => by
  obtain ⟨h1, h2⟩ := q_ok h0 h hq
  rw [h2 i]
  unfold cv
  exact sumN_zero fun j _ => by simp only [h1 j (by omega), Int.sub_self, Int.zero_mul]
theorem cv_const {u g : Nat → Int} (hg : ∀ j, 0 < j → g j = 0) (k : Nat) : cv u g k = u k * g 0 := by
  unfold cv
  rw [sumN_single (a := k) (by omega) fun j hj hne => by rw [hg (k - j) (by omega), Int.mul_zero], Nat.sub_self]
theorem co_mulZ (c : Int) (xs : List Int) (k : Nat) : co (xs.map fun i => c * i) k = c * co xs k := by
  by_cases h : k < xs.length
  · rw [co_lt (by simpa using h), co_lt h]; simp
  · rw [co_ge (by simpa using h), co_ge (by omega)]; simp
theorem co_map0 (f : Int → Int) (h0 : f 0 = 0) (xs : List Int) (k : Nat) : co (xs.map f) k = f (co xs k) := by
  by_cases h : k < xs.length
  · rw [co_lt (by simpa using h), co_lt h]; simp
  · rw [co_ge (by simpa using h), co_ge (by omega), h0]
theorem trim_last : ∀ {xs : List Int}, (0 < xs.length → co xs (xs.length - 1) ≠ 0) → trim xs = xs := fun {xs} h => by
  rcases List.eq_nil_or_concat xs with e | ⟨ys, y, e⟩
  · subst e; rfl
  · rw [List.concat_eq_append] at e
    subst e
    refine trim_snoc ys ?_
    have := h (by simp)
    rw [co_append] at this
    simpa using this
theorem last_trim {xs : List Int} (h : trim xs = xs) (hp : 0 < xs.length) : co xs (xs.length - 1) ≠ 0 := fun h0 => by
  have e : trim xs = trim (xs.take (xs.length - 1)) := trim_ext fun k => by
    by_cases hk : k < xs.length - 1
    · rw [co_lt (xs := xs) (by omega), co_lt (by rw [List.length_take]; omega)]; simp
    · rw [co_ge (xs := xs.take (xs.length - 1)) (by rw [List.length_take]; omega)]
      by_cases hk2 : k = xs.length - 1
      · rw [hk2]; exact h0
      · exact co_ge (by omega)
  have l1 := trim_length_le (xs.take (xs.length - 1))
  rw [← e, h, List.length_take] at l1
  omega
theorem all0 (z : List Int) : (∀ y ∈ z, y = 0) ↔ ∀ k, co z k = 0 := by
  constructor
  · intro h k
    by_cases hk : k < z.length
    · rw [co_lt hk]; exact h _ (List.getElem_mem hk)
    · exact co_ge (by omega)
  · intro h y hy
    obtain ⟨k, hk, e⟩ := List.mem_iff_getElem.mp hy
    rw [← e, ← co_lt hk]; exact h k
/-- a product and a rest: the quotient, or none -/
theorem quo_rest {w d q z : List Int} (h0 : co d (d.length - 1) ≠ 0) (hz : z.length ≤ d.length - 1) (hq : trim q = q) (hw : ∀ k, co w k = mulc d q k + co z k) : quo w d = if (∀ y ∈ z, y = 0) then some q else none := by

  by_cases hy : ∀ y ∈ z, y = 0
  · have h := (all0 z).mp hy
    rw [if_pos hy, quo_some h0 (q := q) fun k => by rw [hw, h k, Int.add_zero, mulc_cv, mulc_cv, cv_comm], hq]
  · rw [if_neg hy]
    refine quo_none fun ⟨p, hp⟩ => hy ((all0 z).mpr ?_)
    have e : ∀ k, cv (fun i => co p i - co q i) (co d) k = co z k := fun k => by
      have := hp k
      rw [hw k, mulc_cv, mulc_cv, cv_comm] at this
      rw [cv_sub]; omega
    have hzz := cv_zero (u := fun i => co p i - co q i) (g := co d) (n := d.length - 1) (k := 0) (B := max p.length q.length) (fun j hj => by rw [co_ge (xs := p) (by omega), co_ge (xs := q) (by omega)]; rfl) (fun j hj => co_ge (by omega)) h0 (fun i hi => by rw [e i]; exact co_ge (by omega))
    intro k
    rw [← e k]
    unfold cv
    exact sumN_zero fun j _ => by simp only [hzz j (by omega), Int.zero_mul]
/-- by a number -/
theorem quo_const {q : List Int} {c : Int} (hc : c ≠ 0) (hq : trim q = q) : quo q [c] = if (∀ x ∈ q, x.fmod c = 0) then some (q.map fun x => x.fdiv c) else none := by
  have h0 : co [c] ([c].length - 1) ≠ 0 := by simpa using hc
  have hg : ∀ j, 0 < j → co [c] j = 0 := fun j hj => co_ge (by simp; omega)
  have hm : ∀ (p : List Int) k, mulc p [c] k = co p k * c := fun p k => by rw [mulc_cv, cv_const hg, co_zero]
  have hmod : ∀ y : Int, (y * c).fmod c = 0 := fun y => Int.mul_fmod_left y c
  have hdiv : ∀ y : Int, y.fmod c = 0 → y.fdiv c * c = y := fun y hy => by
    have := Int.mul_fdiv_add_fmod y c
    rw [hy, Int.add_zero, Int.mul_comm] at this; exact this
  by_cases h : ∀ x ∈ q, x.fmod c = 0
  · rw [if_pos h, quo_some h0 (q := q.map fun x => x.fdiv c) fun k => ?_]
    · congr 1
      refine trim_last fun hp => ?_
      rw [co_map0 _ (by simp), List.length_map]
      intro hz
      have hp' : 0 < q.length := by simpa using hp
      have hl := last_trim hq hp'
      have hx := h (co q (q.length - 1)) (by rw [co_lt (by omega)]; exact List.getElem_mem _)
      have := hdiv _ hx
      rw [hz, Int.zero_mul] at this
      exact hl this.symm
    · rw [hm, co_map0 _ (by simp)]
      by_cases hk : k < q.length
      · rw [co_lt hk]; exact (hdiv _ (h _ (List.getElem_mem hk))).symm
      · rw [co_ge (by omega)]; simp
  · rw [if_neg h]
    refine quo_none fun ⟨p, hp⟩ => h fun x hx => ?_
    obtain ⟨k, hk, e⟩ := List.mem_iff_getElem.mp hx
    have := hp k
    rw [hm, co_lt hk, e] at this
    rw [this]; exact hmod _
/-- by c times d -/
theorem quo_times {w d q z : List Int} {c : Int} (hc : c ≠ 0) (h0 : co d (d.length - 1) ≠ 0) (hz : z.length ≤ d.length - 1) (hq : trim q = q) (hw : ∀ k, co w k = mulc d q k + co z k) : quo w (d.map fun i => c * i) = if (∀ y ∈ z, y = 0) ∧ (∀ x ∈ q, x.fmod c = 0) then some (q.map fun x => x.fdiv c) else none := by
  have h0' : co (d.map fun i => c * i) ((d.map fun i => c * i).length - 1) ≠ 0 := by
    rw [co_mulZ, List.length_map]
    exact fun h => (Int.mul_eq_zero.mp h).elim hc h0
  have hm : ∀ (p : List Int) k, mulc p (d.map fun i => c * i) k = mulc (p.map fun i => c * i) d k := fun p k => by
    rw [mulc_cv, mulc_cv, cv_comm, cv_comm (co (p.map fun i => c * i))]
    rw [show co (d.map fun i => c * i) = fun i => c * co d i from funext (co_mulZ c d), show co (p.map fun i => c * i) = fun i => c * co p i from funext (co_mulZ c p), cv_mul, cv_comm (co d) (fun i => c * co p i), cv_mul, cv_comm]
  have e1 := quo_rest h0 hz hq hw
  have e2 := quo_const hc hq
  by_cases h : (∀ y ∈ z, y = 0) ∧ (∀ x ∈ q, x.fmod c = 0)
  · rw [if_pos h]
    rw [if_pos h.2] at e2
    have hc2 : ∀ k, co q k = c * co (q.map fun x => x.fdiv c) k := fun k => by
      rw [co_map0 _ (by simp)]
      have := Int.mul_fdiv_add_fmod (co q k) c
      have hx : (co q k).fmod c = 0 := by
        by_cases hk : k < q.length
        · rw [co_lt hk]; exact h.2 _ (List.getElem_mem hk)
        · rw [co_ge (by omega)]; simp
      omega
    have ht : trim (q.map fun x => x.fdiv c) = q.map fun x => x.fdiv c := trim_last fun hp hz => by
      have hp' : 0 < q.length := by simpa using hp
      have := hc2 (q.length - 1)
      rw [List.length_map] at hz
      rw [hz, Int.mul_zero] at this
      exact last_trim hq hp' this
    rw [quo_some h0' (q := q.map fun x => x.fdiv c) fun k => ?_, ht]
    rw [hw, (all0 z).mp h.1 k, Int.add_zero, hm, mulc_cv, mulc_cv, cv_comm]
    have : co ((q.map fun x => x.fdiv c).map fun i => c * i) = co q := funext fun k => by rw [co_mulZ, ← hc2]
    rw [this]
  · rw [if_neg h]
    refine quo_none fun ⟨p, hp⟩ => h ?_
    have hp2 : PD w d (p.map fun i => c * i) := fun k => by rw [hp k, hm]
    have e3 := quo_some h0 hp2
    rw [e3] at e1
    by_cases hzz : ∀ y ∈ z, y = 0
    · rw [if_pos hzz] at e1
      refine ⟨hzz, fun x hx => ?_⟩
      have e4 : trim (p.map fun i => c * i) = q := by injection e1
      have := mem_trim (xs := p.map fun i => c * i) (x := x) (by rw [e4]; exact hx)
      obtain ⟨y, _, rfl⟩ := List.mem_map.mp this
      exact Int.mul_fmod_right c y
    · rw [if_neg hzz] at e1; cases e1
/-! polynomials by their values -/
theorem pev_sumN {n : Int} {xs : List Int} {N : Nat} (h : xs.length ≤ N) : pev n xs = sumN N fun i => co xs i * n ^ i := by
  rw [pev_sum]
  obtain ⟨m, rfl⟩ := Nat.exists_eq_add_of_le h
  exact (sumN_more m fun i hi => by rw [co_ge hi, Int.zero_mul]).symm
theorem pev_co {xs ys : List Int} (h : ∀ k, co xs k = co ys k) (n : Int) : pev n xs = pev n ys := by
  rw [pev_sumN (N := max xs.length ys.length) (by omega), pev_sumN (xs := ys) (N := max xs.length ys.length) (by omega)]
  exact sumN_congr fun i _ => by rw [h]
theorem pev_trim (n : Int) (xs : List Int) : pev n (trim xs) = pev n xs := pev_co (co_trim xs) n
theorem pev_padd (n : Int) (xs ys : List Int) : pev n (padd xs ys) = pev n xs + pev n ys := by
  have l := trim_length_le ((List.range (max xs.length ys.length)).map fun k => co xs k + co ys k)
  rw [List.length_map, List.length_range] at l
  rw [pev_sumN (N := max xs.length ys.length) (xs := padd xs ys) l, pev_sumN (N := max xs.length ys.length) (xs := xs) (by omega), pev_sumN (xs := ys) (N := max xs.length ys.length) (by omega), ← sumN_add]
  exact sumN_congr fun i _ => by rw [co_padd, Int.add_mul]
theorem pev_psub (n : Int) (xs ys : List Int) : pev n (psub xs ys) = pev n xs - pev n ys := by
  have h : pev n (padd (psub xs ys) ys) = pev n xs := pev_co (fun k => by rw [co_padd, co_psub]; omega) n
  rw [pev_padd] at h
  omega
theorem pev_map (c n : Int) : ∀ xs : List Int, pev n (xs.map fun i => c * i) = c * pev n xs
  | [] => by simp [pev]
  | x :: xs => by
    rw [List.map_cons, pev, pev, pev_map c n xs, Int.mul_add, Int.mul_assoc]
theorem mulc_cons (x : Int) (xs ys : List Int) (k : Nat) : mulc (x :: xs) ys k = x * co ys k + if k = 0 then 0 else mulc xs ys (k - 1) := by
  rw [mulc_cv, mulc_cv]
  unfold cv
  rw [sumN_shift]
  simp only [co_zero, co_succ, Nat.sub_zero]
  congr 1
  cases k with
  | zero => rfl
  | succ k =>
    rw [if_neg (by omega), Nat.add_sub_cancel]
    exact sumN_congr fun i _ => by rw [show k + 1 - (i + 1) = k - i by omega]
theorem co_pmulc (xs ys : List Int) (k : Nat) : co (pmul xs ys) k = mulc xs ys k := co_pmul xs ys k
theorem pev_pmul (n : Int) (ys : List Int) : ∀ xs : List Int, pev n (pmul xs ys) = pev n xs * pev n ys
  | [] => by
    rw [pev, Int.zero_mul, ← show pev n [] = 0 from rfl]
    exact pev_co (fun k => by rw [co_pmulc, co_nil]; rfl) n
  | x :: xs => by
    have h : pev n (pmul (x :: xs) ys) = pev n (padd (ys.map fun i => x * i) (0 :: pmul xs ys)) := pev_co (fun k => by
      rw [co_pmulc, co_padd, co_mulZ, mulc_cons]
      cases k with
      | zero => simp
      | succ k => simp [co_pmulc]) n
    rw [h, pev_padd, pev_map, pev, pev_pmul n ys xs, pev, Int.add_mul, Int.add_zero, Int.mul_right_comm]
    omega
theorem co_of_pev {xs ys : List Int} (N : Nat) (h : ∀ n : Int, (N : Int) < n → pev n xs = pev n ys) (k : Nat) : co xs k = co ys k := by
  have hz := pev_zero (ds := psub xs ys) N fun n hn => by rw [pev_psub, h n hn, Int.sub_self]
  have := co_psub xs ys k
  have h0 : co (psub xs ys) k = 0 := by
    by_cases hk : k < (psub xs ys).length
    · rw [co_lt hk]; exact hz _ (List.getElem_mem hk)
    · exact co_ge (by omega)
  omega
theorem eq_of_pev {xs ys : List Int} (hx : trim xs = xs) (hy : trim ys = ys) (h : ∀ n : Int, pev n xs = pev n ys) : xs = ys := ext_trim hx hy (co_of_pev 0 fun n _ => h n)
/-- a function that is a polynomial's values -/
def PF (f : Int → Int) : Prop := ∃ p : List Int, ∀ n, pev n p = f n
theorem PF.of (p : List Int) : PF fun n => pev n p := ⟨p, fun _ => rfl⟩
theorem PF.const (c : Int) : PF fun _ => c := ⟨[c], fun n => by simp [pev]⟩
theorem PF.add {f g : Int → Int} (hf : PF f) (hg : PF g) : PF fun n => f n + g n := by
  obtain ⟨p, h1⟩ := hf
  obtain ⟨q, h2⟩ := hg
  exact ⟨padd p q, fun n => by rw [pev_padd, h1, h2]⟩
theorem PF.mul {f g : Int → Int} (hf : PF f) (hg : PF g) : PF fun n => f n * g n := by
  obtain ⟨p, h1⟩ := hf
  obtain ⟨q, h2⟩ := hg
  exact ⟨pmul p q, fun n => by rw [pev_pmul, h1, h2]⟩
theorem PF.sub {f g : Int → Int} (hf : PF f) (hg : PF g) : PF fun n => f n - g n := by
  obtain ⟨p, h1⟩ := hf
  obtain ⟨q, h2⟩ := hg
  exact ⟨psub p q, fun n => by rw [pev_psub, h1, h2]⟩
/-- multiples -/
theorem PF.cmul {f : Int → Int} (c : Int) (hf : PF f) : PF fun n => c * f n := (PF.const c).mul hf
/-! lengths, leading numbers -/
abbrev lead (xs : List Int) : Int := co xs (xs.length - 1)
theorem len_le {zs : List Int} {m : Nat} (ht : trim zs = zs) (h : ∀ k, m ≤ k → co zs k = 0) : zs.length ≤ m := by
  by_cases hl : zs.length ≤ m
  · exact hl
  · exact absurd (h (zs.length - 1) (by omega)) (last_trim ht (by omega))
theorem len_gt {zs : List Int} {k : Nat} (h : co zs k ≠ 0) : k < zs.length := by
  by_cases hl : k < zs.length
  · exact hl
  · exact absurd (co_ge (by omega)) h
theorem trim_pmul (xs ys : List Int) : trim (pmul xs ys) = pmul xs ys := trim_nrm _ _
theorem mulc_top {xs ys : List Int} (hx : 0 < xs.length) (hy : 0 < ys.length) : mulc xs ys (xs.length - 1 + (ys.length - 1)) = lead xs * lead ys := by
  rw [mulc_cv]
  exact cv_top (fun j hj => co_ge (by omega)) (fun j hj => co_ge (by omega))
theorem mulc_far {xs ys : List Int} {k : Nat} (h : xs.length + ys.length ≤ k + 1) : mulc xs ys k = 0 := by
  unfold mulc
  refine sumN_zero fun i hi => ?_
  unfold cvt
  split
  · rw [co_ge (xs := ys) (by omega), Int.mul_zero]
  · rfl
theorem pmul_length {xs ys : List Int} (hx : trim xs = xs) (hy : trim ys = ys) (h1 : 0 < xs.length) (h2 : 0 < ys.length) : (pmul xs ys).length = xs.length + ys.length - 1 := by
  have a : (pmul xs ys).length ≤ xs.length + ys.length - 1 := len_le (trim_pmul _ _) fun k hk => by rw [co_pmulc, mulc_far (by omega)]
  have b : xs.length - 1 + (ys.length - 1) < (pmul xs ys).length := len_gt (by
    rw [co_pmulc, mulc_top h1 h2]
    exact Int.mul_ne_zero (last_trim hx h1) (last_trim hy h2))
  omega
/-! what divides all numbers -/
def contL (xs : List Int) : Nat := xs.foldl (fun a x => Nat.gcd a x.natAbs) 0
theorem dvd_foldl (d : Nat) : ∀ (xs : List Int) (a : Nat), d ∣ xs.foldl (fun a x => Nat.gcd a x.natAbs) a ↔ d ∣ a ∧ ∀ x ∈ xs, d ∣ x.natAbs
  | [], a => by simp
  | x :: xs, a => by
    rw [List.foldl_cons, dvd_foldl d xs, Nat.dvd_gcd_iff]
    simp only [List.mem_cons, forall_eq_or_imp]
    exact and_assoc
theorem dvd_cont {d : Nat} {xs : List Int} : d ∣ contL xs ↔ ∀ k, (d : Int) ∣ co xs k := by
  unfold contL
  rw [dvd_foldl]
  constructor
  · intro h k
    by_cases hk : k < xs.length
    · rw [co_lt hk]; exact Int.ofNat_dvd_left.mpr (h.2 _ (List.getElem_mem hk))
    · rw [co_ge (by omega)]; exact Int.dvd_zero _
  · intro h
    refine ⟨Nat.dvd_zero _, fun x hx => ?_⟩
    obtain ⟨k, hk, e⟩ := List.mem_iff_getElem.mp hx
    have := h k
    rw [co_lt hk, e] at this
    exact Int.ofNat_dvd_left.mp this
theorem cont_co {xs ys : List Int} (h : ∀ k, co xs k = co ys k) : contL xs = contL ys := Nat.dvd_antisymm (dvd_cont.mpr fun k => by rw [← h]; exact dvd_cont.mp (Nat.dvd_refl _) k) (dvd_cont.mpr fun k => by rw [h]; exact dvd_cont.mp (Nat.dvd_refl _) k)
theorem cont_map (c : Int) (xs : List Int) : contL (xs.map fun i => c * i) = c.natAbs * contL xs := by
  refine Nat.dvd_antisymm ?_ (dvd_cont.mpr fun k => ?_)
  · by_cases hc : c = 0
    · subst hc; simp
    · have h0 : c.natAbs ∣ contL (xs.map fun i => c * i) := dvd_cont.mpr fun k => by
        rw [co_mulZ]; exact Int.dvd_trans (Int.natAbs_dvd.mpr (Int.dvd_refl c)) (Int.dvd_mul_right _ _)
      obtain ⟨m, hm⟩ := h0
      rw [hm]
      refine Nat.mul_dvd_mul_left _ (dvd_cont.mpr fun k => ?_)
      have := (dvd_cont (xs := xs.map fun i => c * i)).mp (Nat.dvd_refl _) k
      rw [co_mulZ, hm] at this
      have h2 : (c.natAbs * m : Nat) ∣ (c * co xs k).natAbs := Int.ofNat_dvd_left.mp this
      rw [Int.natAbs_mul] at h2
      exact Int.ofNat_dvd_left.mpr (Nat.dvd_of_mul_dvd_mul_left (by omega) h2)
  · rw [co_mulZ]
    refine Int.ofNat_dvd_left.mpr ?_
    rw [Int.natAbs_mul]
    exact Nat.mul_dvd_mul_left _ (Int.ofNat_dvd_left.mp (dvd_cont.mp (Nat.dvd_refl _) k))
theorem cont_pos {xs : List Int} (ht : trim xs = xs) (hp : 0 < xs.length) : 0 < contL xs := by
  rcases Nat.eq_zero_or_pos (contL xs) with h | h
  · have := (dvd_cont (xs := xs)).mp (Nat.dvd_refl _) (xs.length - 1)
    rw [h] at this
    exact absurd (Int.zero_dvd.mp (by simpa using this)) (last_trim ht hp)
  · exact h
theorem cont_nil : contL [] = 0 := rfl
/-! primes -/
def Pr (p : Nat) : Prop := 1 < p ∧ ∀ k, k ∣ p → k = 1 ∨ k = p
theorem ex_prime : ∀ m : Nat, m ≠ 1 → ∃ p, Pr p ∧ p ∣ m := by
  intro m
  induction m using Nat.strongRecOn with
  | ind m ih =>
    intro h1
    by_cases h0 : m = 0
    · subst h0
      refine ⟨2, ⟨by omega, fun k hk => ?_⟩, Nat.dvd_zero _⟩
      have := Nat.le_of_dvd (by omega) hk
      rcases Nat.eq_zero_or_pos k with e | e
      · subst e; simp at hk
      · omega
    · by_cases hp : ∀ k, k ∣ m → k = 1 ∨ k = m
      · exact ⟨m, ⟨by omega, hp⟩, Nat.dvd_refl _⟩
      · obtain ⟨k, hk⟩ := Classical.not_forall.mp hp
        obtain ⟨hkm, hn⟩ := Classical.not_imp.mp hk
        have hle := Nat.le_of_dvd (by omega) hkm
        obtain ⟨p, p1, p2⟩ := ih k (by omega) (by omega)
        exact ⟨p, p1, Nat.dvd_trans p2 hkm⟩
theorem Pr.mul {p a b : Nat} (hp : Pr p) (h : p ∣ a * b) : p ∣ a ∨ p ∣ b := by
  rcases hp.2 (Nat.gcd p a) (Nat.gcd_dvd_left _ _) with e | e
  · exact .inr (Nat.Coprime.dvd_of_dvd_mul_left e h)
  · exact .inl (by rw [← e]; exact Nat.gcd_dvd_right _ _)
theorem last_not {Z : Nat → Prop} : ∀ N : Nat, (∀ k, N ≤ k → Z k) → (∃ k, ¬ Z k) → ∃ i, ¬ Z i ∧ ∀ j, i < j → Z j
  | 0, h, ⟨k, hk⟩ => absurd (h k (by omega)) hk
  | N + 1, h, ex => by
    by_cases hN : Z N
    · exact last_not N (fun k hk => by
        by_cases e : k = N
        · rw [e]; exact hN
        · exact h k (by omega)) ex
    · exact ⟨N, hN, fun j hj => h j (by omega)⟩
theorem sumN_dvd {d : Int} {f g : Nat → Int} : ∀ {n : Nat}, (∀ i, i < n → d ∣ f i - g i) → d ∣ sumN n f - sumN n g
  | 0, _ => by simp [sumN]
  | n + 1, h => by
    rw [sumN, sumN, show sumN n f + f n - (sumN n g + g n) = (sumN n f - sumN n g) + (f n - g n) by omega]
    exact Int.dvd_add (sumN_dvd fun i hi => h i (by omega)) (h n (by omega))
theorem sumN_dvd0 {d : Int} {f : Nat → Int} : ∀ {n : Nat}, (∀ i, i < n → d ∣ f i) → d ∣ sumN n f
  | 0, _ => by simp [sumN]
  | n + 1, h => by
    rw [sumN]
    exact Int.dvd_add (sumN_dvd0 fun i hi => h i (by omega)) (h n (by omega))
/-- where a prime divides no whole factor, it divides not the whole product -/
theorem prime_pmul {p : Nat} (hp : Pr p) {xs ys : List Int} (hx : ¬ p ∣ contL xs) (hy : ¬ p ∣ contL ys) : ¬ p ∣ contL (pmul xs ys) := by
  intro hd
  obtain ⟨i, hi, hi2⟩ := last_not (Z := fun k => (p : Int) ∣ co xs k) xs.length (fun k hk => by rw [co_ge hk]; exact Int.dvd_zero _) (Classical.not_forall.mp fun h => hx (dvd_cont.mpr h))
  obtain ⟨j, hj, hj2⟩ := last_not (Z := fun k => (p : Int) ∣ co ys k) ys.length (fun k hk => by rw [co_ge hk]; exact Int.dvd_zero _) (Classical.not_forall.mp fun h => hy (dvd_cont.mpr h))
  have h1 := dvd_cont.mp hd (i + j)
  rw [co_pmulc, mulc_cv] at h1
  have h2 : (p : Int) ∣ cv (co xs) (co ys) (i + j) - cv (fun k => if k ≤ i then co xs k else 0) (fun k => if k ≤ j then co ys k else 0) (i + j) := by
    unfold cv
    refine sumN_dvd fun k hk => ?_
    by_cases a : k ≤ i
    · by_cases b : i + j - k ≤ j
      · simp only [if_pos a, if_pos b, Int.sub_self]; exact Int.dvd_zero _
      · simp only [if_neg b, Int.mul_zero, Int.sub_zero]
        exact Int.dvd_trans (hj2 _ (by omega)) (Int.dvd_mul_left _ _)
    · simp only [if_neg a, Int.zero_mul, Int.sub_zero]
      exact Int.dvd_trans (hi2 _ (by omega)) (Int.dvd_mul_right _ _)
  rw [cv_top (u := fun k => if k ≤ i then co xs k else 0) (g := fun k => if k ≤ j then co ys k else 0) (n := j) (i := i) (fun k hk => if_neg (by omega)) (fun k hk => if_neg (by omega)), if_pos (Nat.le_refl _), if_pos (Nat.le_refl _)] at h2
  have h3 : (p : Int) ∣ co xs i * co ys j := by
    have := Int.dvd_sub h1 h2
    rwa [show cv (co xs) (co ys) (i + j) - (cv (co xs) (co ys) (i + j) - co xs i * co ys j) = co xs i * co ys j by omega] at this
  have h4 := Int.ofNat_dvd_left.mp h3
  rw [Int.natAbs_mul] at h4
  rcases hp.mul h4 with e | e
  · exact hi (Int.ofNat_dvd_left.mpr e)
  · exact hj (Int.ofNat_dvd_left.mpr e)
/-- xs over what divides all its numbers -/
def pp (xs : List Int) : List Int := xs.map fun x => x.fdiv (contL xs)
theorem co_pp (xs : List Int) (k : Nat) : co xs k = contL xs * co (pp xs) k := by
  unfold pp
  rw [co_map0 _ (by simp)]
  have h := (dvd_cont (xs := xs)).mp (Nat.dvd_refl _) k
  rw [Int.mul_comm]
  exact (Int.fdiv_mul_cancel h).symm
theorem cont_pp {xs : List Int} (h : 0 < contL xs) : contL (pp xs) = 1 := by
  have h1 : contL xs * contL (pp xs) ∣ contL xs := dvd_cont.mpr fun k => by
    rw [co_pp xs k]
    have := (dvd_cont (xs := pp xs)).mp (Nat.dvd_refl _) k
    rw [Int.natCast_mul]
    exact Int.mul_dvd_mul_left _ this
  have h2 : contL (pp xs) ∣ 1 := Nat.dvd_of_mul_dvd_mul_left h (by rw [Nat.mul_one]; exact h1)
  exact Nat.dvd_one.mp h2
theorem gauss (xs ys : List Int) : contL (pmul xs ys) = contL xs * contL ys := by
  have e : ∀ k, co (pmul xs ys) k = (contL xs * contL ys : Nat) * co (pmul (pp xs) (pp ys)) k := fun k => by
    rw [co_pmulc, co_pmulc, mulc_cv, mulc_cv]
    rw [show co xs = fun i => (contL xs : Int) * co (pp xs) i from funext (co_pp xs), show co ys = fun i => (contL ys : Int) * co (pp ys) i from funext (co_pp ys), cv_mul, cv_comm, cv_mul, cv_comm, Int.natCast_mul, Int.mul_assoc]
  have e2 : contL (pmul xs ys) = contL xs * contL ys * contL (pmul (pp xs) (pp ys)) := by
    rw [cont_co (ys := (pmul (pp xs) (pp ys)).map fun i => ((contL xs * contL ys : Nat) : Int) * i) fun k => by rw [co_mulZ, e], cont_map, Int.natAbs_natCast]
  rcases Nat.eq_zero_or_pos (contL xs) with h1 | h1
  · rw [e2, h1]; simp
  · rcases Nat.eq_zero_or_pos (contL ys) with h2 | h2
    · rw [e2, h2]; simp
    · have e3 : contL (pmul (pp xs) (pp ys)) = 1 := by
        by_cases h : contL (pmul (pp xs) (pp ys)) = 1
        · exact h
        · obtain ⟨p, hp, hd⟩ := ex_prime _ h
          have hn : ¬ p ∣ 1 := fun h => by have := Nat.dvd_one.mp h; have := hp.1; omega
          exact absurd hd (prime_pmul hp (by rw [cont_pp h1]; exact hn) (by rw [cont_pp h2]; exact hn))
      rw [e2, e3, Nat.mul_one]
/-! polynomials whose numbers nothing divides, the last above nought -/
structure Nrm (F : List Int) : Prop where
  t : trim F = F
  p : 0 < F.length
  c : contL F = 1
  l : 0 < lead F
def prBy (xs : List Int) : Int := if lead xs < 0 then -(contL xs : Int) else contL xs
def prim (xs : List Int) : List Int := xs.map fun x => x.fdiv (prBy xs)
theorem prBy_abs (xs : List Int) : (prBy xs).natAbs = contL xs := by unfold prBy; split <;> omega
theorem co_prim (xs : List Int) (k : Nat) : co xs k = prBy xs * co (prim xs) k := by
  unfold prim
  rw [co_map0 _ (by simp), Int.mul_comm]
  refine (Int.fdiv_mul_cancel ?_).symm
  rw [← Int.natAbs_dvd, prBy_abs]
  exact (dvd_cont (xs := xs)).mp (Nat.dvd_refl _) k
theorem prim_length (xs : List Int) : (prim xs).length = xs.length := by simp [prim]
theorem prim_nrm {xs : List Int} (ht : trim xs = xs) (hp : 0 < xs.length) : Nrm (prim xs) := by
  have hc := cont_pos ht hp
  have ha := prBy_abs xs
  have hl : lead xs = prBy xs * lead (prim xs) := by
    show co xs (xs.length - 1) = _ * co (prim xs) ((prim xs).length - 1)
    rw [prim_length]; exact co_prim xs _
  have hl0 := last_trim ht hp
  have hc1 : contL (prim xs) = 1 := by
    have e : contL xs = contL xs * contL (prim xs) := by
      conv => lhs; rw [cont_co (ys := (prim xs).map fun i => prBy xs * i) fun k => by rw [co_mulZ, co_prim], cont_map, ha]
    exact Nat.eq_of_mul_eq_mul_left hc (by rw [Nat.mul_one]; exact e.symm)
  have hp0 : lead (prim xs) ≠ 0 := fun h => by rw [h, Int.mul_zero] at hl; exact hl0 hl
  refine ⟨trim_last fun h => hp0, by rw [prim_length]; exact hp, hc1, ?_⟩
  by_cases h : 0 < lead (prim xs)
  · exact h
  · have hneg : lead (prim xs) < 0 := by omega
    by_cases hx : lead xs < 0
    · have hb : prBy xs < 0 := by unfold prBy; rw [if_pos hx]; omega
      have := Int.mul_pos_of_neg_of_neg hb hneg
      omega
    · have hb : 0 < prBy xs := by unfold prBy; rw [if_neg hx]; omega
      have := Int.mul_neg_of_pos_of_neg hb hneg
      omega
theorem pev_prim (n : Int) (xs : List Int) : pev n xs = prBy xs * pev n (prim xs) := by
  rw [← pev_map]
  exact pev_co (fun k => by rw [co_mulZ]; exact co_prim xs k) n
theorem pev_prim_c {xs : List Int} (ht : trim xs = xs) : ∃ c : Int, c ≠ 0 ∧ ∀ n, pev n xs = c * pev n (prim xs) := by
  by_cases hp : 0 < xs.length
  · refine ⟨prBy xs, ?_, fun n => pev_prim n xs⟩
    have := prBy_abs xs
    have := cont_pos ht hp
    omega
  · have : xs = [] := List.length_eq_zero_iff.mp (by omega)
    subst this
    exact ⟨1, by omega, fun n => by simp [prim, pev]⟩
theorem prim_lt {b : Nat} {xs : List Int} (h : BL b xs) : BL b (prim xs) := fun y hy => by
  obtain ⟨k, hk, e⟩ := List.mem_iff_getElem.mp hy
  rw [prim_length] at hk
  have e1 := co_prim xs k
  rw [co_lt (xs := prim xs) (by rw [prim_length]; exact hk), e] at e1
  by_cases h0 : y = 0
  · rw [h0]; exact Nat.two_pow_pos b
  · have hb : (co xs k).natAbs < 2 ^ b := by rw [co_lt hk]; exact h _ (List.getElem_mem hk)
    rw [e1, Int.natAbs_mul] at hb
    by_cases hz : prBy xs = 0
    · have hy0 : y = 0 := by
        have : y ∈ xs.map fun x => x.fdiv (prBy xs) := hy
        rw [hz] at this
        obtain ⟨x, _, ex⟩ := List.mem_map.mp this
        rw [← ex]; simp
      exact absurd hy0 h0
    · have : y.natAbs ≤ (prBy xs).natAbs * y.natAbs := Nat.le_mul_of_pos_left _ (by omega)
      omega
theorem nrm_scale {F G : List Int} (hF : Nrm F) (hG : Nrm G) {a b : Int} (ha : a ≠ 0) (hb : b ≠ 0) (h : ∀ k, a * co F k = b * co G k) : F = G := by
  have hc : a.natAbs = b.natAbs := by
    have e : contL (F.map fun i => a * i) = contL (G.map fun i => b * i) := cont_co fun k => by rw [co_mulZ, co_mulZ, h]
    rw [cont_map, cont_map, hF.c, hG.c] at e
    omega
  have l1 : F.length ≤ G.length := len_le hF.t fun k hk => by
    have := h k
    rw [co_ge (xs := G) hk, Int.mul_zero] at this
    exact (Int.mul_eq_zero.mp this).resolve_left ha
  have l2 : G.length ≤ F.length := len_le hG.t fun k hk => by
    have := h k
    rw [co_ge (xs := F) hk, Int.mul_zero] at this
    exact (Int.mul_eq_zero.mp this.symm).resolve_left hb
  have ll : F.length = G.length := by omega
  have hl := h (F.length - 1)
  have p1 : 0 < co F (F.length - 1) := hF.l
  have p2 : 0 < co G (F.length - 1) := by rw [ll]; exact hG.l
  have hab : a = b := by
    rcases Int.natAbs_eq_natAbs_iff.mp hc with e | e
    · exact e
    · exfalso
      rw [e, Int.neg_mul] at hl
      have : b * (co G (F.length - 1) + co F (F.length - 1)) = 0 := by rw [Int.mul_add]; omega
      rcases Int.mul_eq_zero.mp this with z | z
      · exact hb z
      · omega
  refine ext_trim hF.t hG.t fun k => ?_
  have := h k
  rw [hab] at this
  exact Int.eq_of_mul_eq_mul_left hb this
theorem assoc_eq {F G : List Int} (hF : Nrm F) (hG : Nrm G) {K K' : Int} {C C' : Int → Int} (hK : K ≠ 0) (hK' : K' ≠ 0) (hC : PF C) (hC' : PF C') (h : ∀ n, K * pev n G = C n * pev n F) (h' : ∀ n, K' * pev n F = C' n * pev n G) : F = G := by
  have side : ∀ {F G : List Int} {K : Int} {C : Int → Int}, Nrm F → Nrm G → K ≠ 0 → PF C → (∀ n, K * pev n G = C n * pev n F) → ∃ c : List Int, trim c = c ∧ 0 < c.length ∧ c.length + F.length - 1 = G.length ∧ ∀ k, co (pmul c F) k = K * co G k := by
    intro F G K C hF hG hK hC h
    obtain ⟨c0, hc0⟩ := hC
    have hk : ∀ k, co (pmul (trim c0) F) k = K * co G k := fun k => by
      rw [← co_mulZ]
      refine co_of_pev 0 (fun n _ => ?_) k
      rw [pev_pmul, pev_trim, hc0, pev_map, h]
    have hp : 0 < (trim c0).length := by
      rcases Nat.eq_zero_or_pos (trim c0).length with e | e
      · have e0 : trim c0 = [] := List.length_eq_zero_iff.mp e
        have := hk (G.length - 1)
        rw [e0, co_pmulc] at this
        have z : K * lead G = 0 := by rw [← this]; rfl
        rcases Int.mul_eq_zero.mp z with z | z
        · exact absurd z hK
        · have := hG.l; omega
      · exact e
    refine ⟨trim c0, trim_trim _, hp, ?_, hk⟩
    rw [← pmul_length (trim_trim _) hF.t hp hF.p]
    have a : (pmul (trim c0) F).length ≤ G.length := len_le (trim_pmul _ _) fun k hk' => by rw [hk, co_ge hk', Int.mul_zero]
    have b : G.length - 1 < (pmul (trim c0) F).length := len_gt (by
      rw [hk]
      exact Int.mul_ne_zero hK (Int.ne_of_gt hG.l))
    have := hG.p
    omega
  obtain ⟨c, ct, cp, cl, ck⟩ := side hF hG hK hC h
  obtain ⟨d, dt, dp, dl, _⟩ := side hG hF hK' hC' h'
  have := hF.p
  have := hG.p
  have lc : c.length = 1 := by omega
  have hcn : co c 0 ≠ 0 := by
    have := last_trim ct cp
    rwa [lc] at this
  refine nrm_scale hF hG hcn hK fun k => ?_
  rw [← ck k, co_pmulc, mulc_cv, cv_comm, cv_const (u := co F) (g := co c) (fun j hj => co_ge (by omega)), Int.mul_comm]
/-- in all sums of multiples of X and Y, but for a number -/
def Inn (X Y f : Int → Int) : Prop := ∃ M : Int, M ≠ 0 ∧ ∃ P S : Int → Int, PF P ∧ PF S ∧ ∀ n, M * f n = P n * X n + S n * Y n
/-- X and Y are sums of multiples of f and l, but for a number -/
def Dvs (X Y f l : Int → Int) : Prop := ∃ N : Int, N ≠ 0 ∧ ∃ A B A' B' : Int → Int, (PF A ∧ PF B) ∧ (PF A' ∧ PF B') ∧ ∀ n, N * X n = A n * f n + B n * l n ∧ N * Y n = A' n * f n + B' n * l n
theorem com_unique {X Y : Int → Int} {F E : List Int} (hF : Nrm F) (hE : Nrm E) (iF : Inn X Y fun n => pev n F) (iE : Inn X Y fun n => pev n E) (dF : Dvs X Y (fun n => pev n F) fun _ => 0) (dE : Dvs X Y (fun n => pev n E) fun _ => 0) : F = E := by
  have side : ∀ {F E : List Int}, Inn X Y (fun n => pev n E) → Dvs X Y (fun n => pev n F) (fun _ => 0) → ∃ K : Int, K ≠ 0 ∧ ∃ C : Int → Int, PF C ∧ ∀ n, K * pev n E = C n * pev n F := by
    intro F E ⟨M, hM, P, S, hP, hS, e⟩ ⟨N, hN, A, B, A', B', ⟨hA, _⟩, ⟨hA', _⟩, e2⟩
    refine ⟨N * M, Int.mul_ne_zero hN hM, fun n => P n * A n + S n * A' n, (hP.mul hA).add (hS.mul hA'), fun n => ?_⟩
    have h1 := e n
    obtain ⟨h2, h3⟩ := e2 n
    grind
  obtain ⟨K, hK, C, hC, h⟩ := side iE dF
  obtain ⟨K', hK', C', hC', h'⟩ := side iF dE
  exact assoc_eq hF hE hK hK' hC hC' h h'
/-- a turn of the way to the common divisor -/
theorem inn_step {X Y f l r : Int → Int} {U c : Int} {Q : Int → Int} (hU : U ≠ 0) (hc : c ≠ 0) (hQ : PF Q) (h : ∀ n, c * r n = U * f n - Q n * l n) (hf : Inn X Y f) (hl : Inn X Y l) : Inn X Y r := by
  obtain ⟨M, hM, P, S, hP, hS, e⟩ := hf
  obtain ⟨M', hM', P', S', hP', hS', e'⟩ := hl
  refine ⟨M * M' * c, Int.mul_ne_zero (Int.mul_ne_zero hM hM') hc, fun n => M' * U * P n - M * (Q n * P' n), fun n => M' * U * S n - M * (Q n * S' n), (hP.cmul _).sub ((hQ.mul hP').cmul _), (hS.cmul _).sub ((hQ.mul hS').cmul _), fun n => ?_⟩
  have h1 := e n
  have h2 := e' n
  have h3 := h n
  grind
theorem dvs_step {X Y f l r : Int → Int} {U c : Int} {Q : Int → Int} (hU : U ≠ 0) (hc : c ≠ 0) (hQ : PF Q) (h : ∀ n, c * r n = U * f n - Q n * l n) (hd : Dvs X Y f l) : Dvs X Y l r := by
  obtain ⟨N, hN, A, B, A', B', ⟨hA, hB⟩, ⟨hA', hB'⟩, e⟩ := hd
  refine ⟨U * N, Int.mul_ne_zero hU hN, fun n => A n * Q n + U * B n, fun n => c * A n, fun n => A' n * Q n + U * B' n, fun n => c * A' n, ⟨(hA.mul hQ).add (hB.cmul _), hA.cmul _⟩, ⟨(hA'.mul hQ).add (hB'.cmul _), hA'.cmul _⟩, fun n => ?_⟩
  obtain ⟨h1, h2⟩ := e n
  have h3 := h n
  constructor <;> grind
/-- what is in all sums of multiples of g's is as long as g -/
theorem inn_len {X Y x y : Int → Int} {g l : List Int} (tg : trim g = g) (pg : 0 < g.length) (tl : trim l = l) (pl : 0 < l.length) (hx : PF x) (hy : PF y) (eX : ∀ n, X n = x n * pev n g) (eY : ∀ n, Y n = y n * pev n g) (h : Inn X Y fun n => pev n l) : g.length ≤ l.length := by
  obtain ⟨M, hM, P, S, hP, hS, e⟩ := h
  obtain ⟨c0, hc0⟩ := (hP.mul hx).add (hS.mul hy)
  have hk : ∀ k, co (pmul (trim c0) g) k = M * co l k := fun k => by
    rw [← co_mulZ]
    refine co_of_pev 0 (fun n _ => ?_) k
    rw [pev_pmul, pev_trim, hc0, pev_map]
    have h1 := e n
    have h2 := eX n
    have h3 := eY n
    grind
  have hp : 0 < (trim c0).length := by
    rcases Nat.eq_zero_or_pos (trim c0).length with e | e
    · have e0 : trim c0 = [] := List.length_eq_zero_iff.mp e
      have := hk (l.length - 1)
      rw [e0, co_pmulc] at this
      have z : M * lead l = 0 := by rw [← this]; rfl
      rcases Int.mul_eq_zero.mp z with z | z
      · exact absurd z hM
      · exact absurd z (last_trim tl pl)
    · exact e
  have e1 := pmul_length (trim_trim c0) tg hp pg
  have a : (pmul (trim c0) g).length ≤ l.length := len_le (trim_pmul _ _) fun k hk' => by rw [hk, co_ge hk', Int.mul_zero]
  omega
/-- the last number above nought -/
def nz (xs : List Int) : List Int := if lead xs < 0 then xs.map fun i => -i else xs
theorem pmul_len (xs ys : List Int) : (pmul xs ys).length ≤ xs.length + ys.length := by
  have := trim_length_le ((List.range (xs.length + ys.length)).map fun k => sumN xs.length (cvt xs ys k))
  rw [List.length_map, List.length_range] at this
  exact this
theorem pmul_lt {a b n : Nat} {xs ys : List Int} (hx : BL a xs) (hy : BL b ys) (hn : xs.length ≤ n) : BL (a + b + n) (pmul xs ys) := fun y hy' => by
  obtain ⟨k, _, rfl⟩ := List.mem_map.mp (mem_trim hy')
  refine lt_up (sumN_lt (m := a + b) (n := xs.length) fun i _ => ?_) (by omega)
  unfold cvt
  split
  · exact natAbs_mul_lt (co_lt2 hx i) (co_lt2 hy _) (by omega)
  · exact Nat.two_pow_pos _
theorem pmul_comm (xs ys : List Int) : pmul xs ys = pmul ys xs := eq_of_pev (trim_pmul _ _) (trim_pmul _ _) fun n => by rw [pev_pmul, pev_pmul, Int.mul_comm]
theorem pmul_one {g : List Int} (tg : trim g = g) : pmul g [1] = g := eq_of_pev (trim_pmul _ _) tg fun n => by rw [pev_pmul]; simp [pev]
/-! lists of polynomials -/
abbrev LD (ls : List (List Int)) : D := .lst (ls.map lD)
abbrev oL (ls : List (List Int)) : List O := ls.map lO
abbrev polR (l : List Int) : R := .nw (lO l)
theorem allFz_oL (ls : List (List Int)) : allFz (oL ls) = true := by induction ls with
  | nil => rfl
  | cons l ls ih => exact ih
theorem ers_oL (ls : List (List Int)) : ers (oL ls) = ls.map lD := by rw [ers_eq, List.map_map]; rfl
theorem er_oL (ls : List (List Int)) : er (.ls (oL ls)) = LD ls := by rw [er_ls, ers_oL]
theorem items_LD (ls : List (List Int)) : items (.fz (LD ls)) = some (oL ls) := by simp [oL]
/-- a list of polynomials, lent or frozen -/
def IsL (o : O) (ls : List (List Int)) : Prop := o = .ls (oL ls) ∨ o = .fz (LD ls)
theorem IsL.items {o : O} {ls : List (List Int)} (h : IsL o ls) : items o = some (oL ls) := by
  rcases h with rfl | rfl
  · rfl
  · exact items_LD ls
theorem IsL.er {o : O} {ls : List (List Int)} (h : IsL o ls) : er o = LD ls := by
  rcases h with rfl | rfl
  · exact er_oL ls
  · rfl
theorem polR_range (ls : List (List Int)) : ls.map polR = (List.range ls.length).map fun k => polR (ls.getD k []) := by
  refine List.ext_getElem? fun k => ?_
  by_cases h : k < ls.length
  · simp [h]
  · simp [h]
theorem iLst_L {i : Nat} {w : Bool} {r : Env} {o : O} {ls : List (List Int)} (h : r[i]? = some (.vl w o)) (hw : w = false ∨ o = .fz (LD ls)) (hx : IsL o ls) : iLst (eVar i) r = .ok ((List.range ls.length).map fun k => polR (ls.getD k [])) := by
  rw [← polR_range, iLst, var_of h, res_ok]
  rcases hx with rfl | rfl
  · have hw' : w = false := hw.resolve_right fun h => by cases h
    subst hw'
    show Res.ok ((oL ls).map (see false)) = _
    rw [List.map_map]; rfl
  · rw [see_fz]
    show (match items (.fz (er (.fz (LD ls)))) with | some os => Res.ok (os.map R.nw) | none => .bad) = _
    rw [er_fz, items_LD]
    show Res.ok ((oL ls).map R.nw) = _
    rw [List.map_map]; rfl
theorem len_L {i : Nat} {w : Bool} {r : Env} {o : O} {ls : List (List Int)} (h : r[i]? = some (.vl w o)) (hx : IsL o ls) : eB gLen (aCons (eVar i) aNil) r = .ok (.nw (I ls.length)) := by
  rw [b1 (var_of h), see_a]
  have e : lenO o = some ls.length := by
    rcases hx with rfl | rfl
    · show (items (.ls (oL ls))).map List.length = _
      simp
    · show (items (.fz (LD ls))).map List.length = _
      rw [items_LD]; simp
  simp only [gLen, e]; rfl
theorem ix_L {i j : Nat} {k : Int} {w : Bool} {g : FE} {r : Env} {o : O} {ls : List (List Int)} (h : r[i]? = some (.vl w o)) (hx : IsL o ls) (h2 : g r = .ok (.nw (I k))) (hk : k = (j : Int)) (hj : j < ls.length) : eIx (eVar i) g r = .ok (.nw (lO ls[j])) := by
  have hd : (oL ls)[j]? = some (lO ls[j]) := by simp [oL, hj]
  rcases hx with rfl | rfl
  · have e : ixO (.ls (oL ls)) k = some (lO ls[j]) := atI_ok (by omega) (by rw [show k.toNat = j by omega]; exact hd)
    cases w with
    | true => rw [ix_vw (var_of h) h2 e]; rfl
    | false => rw [ix_bw (var_of h) h2 e]; rfl
  · have e : ixO (.fz (LD ls)) k = some (lO ls[j]) := by
      show atI ((ls.map lD).map O.fz) k = _
      exact atI_ok (by omega) (by rw [show k.toNat = j by omega]; simp [hj])
    exact ix_nw (var_of h) h2 e
theorem py_LD (ls : List (List Int)) : py (LD ls) = some (.list (ls.map fun l => .list (l.map .int))) := by
  have h : ∀ ls : List (List Int), pys (ls.map lD) = some (ls.map fun l => .list (l.map .int)) := fun ls => by
    induction ls with
    | nil => rfl
    | cons x xs ih => simp only [List.map_cons, pys, py_lD, ih]; rfl
  simp [py, h]
theorem eqv_LD (xs ys : List (List Int)) : PySem.PyData.eqv (.list (xs.map fun l => .list (l.map .int))) (.list (ys.map fun l => .list (l.map .int))) = decide (xs = ys) := by
  have h : ∀ xs ys : List (List Int), PySem.PyData.eqvAll (xs.map fun l => .list (l.map .int)) (ys.map fun l => .list (l.map .int)) = decide (xs = ys) := fun xs => by
    induction xs with
    | nil => intro ys; cases ys <;> simp [PySem.PyData.eqvAll]
    | cons x xs ih =>
      intro ys
      cases ys with
      | nil => simp [PySem.PyData.eqvAll]
      | cons y ys =>
        simp only [List.map_cons, PySem.PyData.eqvAll, ih ys, eqv_ints, List.cons.injEq]
        by_cases h1 : x = y <;> by_cases h2 : xs = ys <;> simp [h1, h2]
  simp only [PySem.PyData.eqv, h]
theorem shaped_LD (ls : List (List Int)) : PySem.SeqAt.shaped (.list (ls.map fun l => .list (l.map .int))) = true := by
  obtain ⟨p, e1, e2, e3⟩ := plain_py 2 (LD ls) (by simp [plainD])
  rw [py_LD] at e1
  cases e1
  unfold PySem.SeqAt.shaped
  rw [e2, decide_eq_true (by omega)]; rfl
theorem eqD_LD (xs ys : List (List Int)) : eqD (LD xs) (LD ys) = some (decide (xs = ys)) := by
  simp only [eqD, py_LD, shaped_LD, Bool.and_self, if_true, eqv_LD]
theorem gEq_L {a b : O} {xs ys : List (List Int)} (ha : er a = LD xs) (hb : er b = LD ys) : gEq a b = .ok (.nw (.fz (.bl (decide (xs = ys))))) := by
  rcases int_cases a b with ⟨i, j, rfl, rfl⟩ | ⟨e, _⟩
  · cases ha
  · rw [e]; simp only [gEqD, ha, hb, eqD_LD]; rfl
theorem gNe_L {a b : O} {xs ys : List (List Int)} (ha : er a = LD xs) (hb : er b = LD ys) : gNe a b = .ok (.nw (.fz (.bl (!decide (xs = ys))))) := by
  rcases int_cases a b with ⟨i, j, rfl, rfl⟩ | ⟨_, e⟩
  · cases ha
  · rw [e]; simp only [gNeD, ha, hb, eqD_LD]; rfl
theorem put_oL (ls : List (List Int)) : put false (.nw (.ls (oL ls))) = some (.vl true (.fz (LD ls))) := by rw [put_nwF, er_oL]
theorem app_L {i : Nat} {r : Env} {ls : List (List Int)} {f : FE} {x : R} {l : List Int} (h : r[i]? = some (.vl true (.ls (oL ls)))) (h2 : f r = .ok x) (hx : x.a = lO l) (hl : ls.length ≤ 100000) : sApp i f r = .nx (r.set i (.vl true (.ls (oL (ls ++ [l]))))) := by
  rw [app_ls h (allFz_oL ls) h2 hx (by simpa using hl)]
  simp [oL]
/-- copies of all -/
theorem lc_copy {fi : Env → Res (List R)} {i : Nat} {r : Env} {ls : List (List Int)} (hi : fi r = .ok ((List.range ls.length).map fun k => polR (ls.getD k []))) (hv : i < r.length) (hn : ls.length ≤ 100000) :
    eLcD fi (gN i) [i] tYesD (eB gList (aCons (eVar i) aNil)) r = .ok (.nw (.ls (ls.map nO))) := by
  rw [lcD_gen (v := fun k => nO (ls.getD k [])) hi (by simpa using hv) (fun k hk => ⟨(wipeE r [i]).set i (.vl true (lO (ls.getD k []))), ?_, ?_⟩) hn]
  · congr 3
    refine List.ext_getElem? fun k => ?_
    by_cases h : k < ls.length
    · simp [h]
    · simp [h]
  · simp [wipeE, hv]
  · exact list_slot (i := i) (w := true) (by simp [wipeE, hv]) (asIL_lst _)
theorem er_nOs (ls : List (List Int)) : er (.ls (ls.map nO)) = LD ls := by
  rw [er_ls, ers_eq, List.map_map]
  congr 1
  exact List.map_congr_left fun l _ => er_nO l
theorem fzsOf_pol (ls : List (List Int)) : fzsOf (ls.map polR) = some (ls.map lD) := by
  induction ls with
  | nil => rfl
  | cons x xs ih => simp only [List.map_cons, fzsOf, ih]; rfl
theorem itsL_LD (ls : List (List Int)) : itsL (.nw (.fz (LD ls))) = .ok (ls.map polR) := by
  simp [itsL]
theorem zip_LD {f g : FE} {r : Env} {xs ys : List (List Int)} (h : f r = .ok (.nw (.fz (LD xs)))) (h2 : g r = .ok (.nw (.fz (LD ys)))) (hl : xs.length = ys.length) : iZipD f g r = .ok ((List.range xs.length).map fun k => tup2 (lD (xs.getD k [])) (lD (ys.getD k []))) := by
  simp only [iZipD, h, h2, res_ok, itsL_LD, zipR, fzsOf_pol]
  congr 1
  unfold zipL
  refine List.ext_getElem? fun k => ?_
  by_cases hk : k < xs.length
  · have hk2 : k < ys.length := by omega
    simp [List.getElem?_zip_eq_some, hk, hk2, List.getElem?_map]
    exact ⟨_, _, ⟨rfl, rfl⟩, rfl⟩
  · simp [hk, show ¬ k < ys.length by omega]
    omega
def dLs : List D → Option (List (List Int))
  | [] => some []
  | .lst ds :: r => (dIs ds).bind fun x => (dLs r).map (x :: ·)
  | _ => none
def dLL : D → Option (List (List Int))
  | .lst ds => dLs ds
  | _ => none
@[simp] theorem dLL_LD (ls : List (List Int)) : dLL (LD ls) = some ls := by
  have h : ∀ ls : List (List Int), dLs (ls.map lD) = some ls := fun ls => by
    induction ls with
    | nil => rfl
    | cons x xs ih => simp [dLs, ih]
  exact h ls
theorem dLs_eq : ∀ {ds : List D} {ls : List (List Int)}, dLs ds = some ls → ds = ls.map lD
  | [], ls, h => by cases h; rfl
  | d :: r, ls, h => by
    cases d with
    | lst ds =>
      cases e : dIs ds with
      | none => simp [dLs, e] at h
      | some x =>
        cases e2 : dLs r with
        | none => simp [dLs, e, e2] at h
        | some ys =>
          have h' : x :: ys = ls := by simpa [dLs, e, e2] using h
          rw [← h', dIs_eq e, dLs_eq e2]; rfl
    | _ => simp [dLs] at h
theorem dLL_eq {d : D} {ls : List (List Int)} (h : dLL d = some ls) : d = LD ls := by
  cases d with
  | lst ds => rw [dLs_eq (show dLs ds = some ls from h)]
  | _ => simp [dLL] at h
theorem ix_lastL {i : Nat} {w : Bool} {r : Env} {g : FE} {ls : List (List Int)} (h : r[i]? = some (.vl w (.fz (LD ls)))) (h2 : g r = .ok (.nw (I (-1)))) (hp : 0 < ls.length) : eIx (eVar i) g r = .ok (.nw (lO (ls[ls.length - 1]'(by omega)))) := by
  have e : ixO (.fz (LD ls)) (-1) = some (lO (ls[ls.length - 1]'(by omega))) := by
    show atI ((ls.map lD).map O.fz) (-1) = _
    rw [atI_last (by simpa using hp)]
    simp
  exact ix_nw (var_of h) h2 e
theorem nil_ok (r : Env) : eLst aNil r = .ok (.nw (nO [])) := by simp [eLst, allFz, iL]
/-! rules and values -/
abbrev fD (p : Int × Int) : D := .tup [.int p.1, .int p.2]
abbrev VD (vs : List (Int × Int)) : D := .lst (vs.map fD)
abbrev fS (p : Int × Int) : S := .vl true (.fz (fD p))
def dFr : D → Option (Int × Int)
  | .tup [.int a, .int b] => some (a, b)
  | _ => none
def dFrs : List D → Option (List (Int × Int))
  | [] => some []
  | d :: r => (dFr d).bind fun p => (dFrs r).map (p :: ·)
def dVs : D → Option (List (Int × Int))
  | .lst ds => dFrs ds
  | _ => none
theorem dFr_eq {d : D} {p : Int × Int} (h : dFr d = some p) : d = fD p := by
  unfold dFr at h
  split at h
  · cases h; rfl
  · cases h
theorem dFrs_eq : ∀ {ds : List D} {vs : List (Int × Int)}, dFrs ds = some vs → ds = vs.map fD
  | [], vs, h => by cases h; rfl
  | d :: r, vs, h => by
    cases e : dFr d with
    | none => simp [dFrs, e] at h
    | some p =>
      cases e2 : dFrs r with
      | none => simp [dFrs, e, e2] at h
      | some ws =>
        have h' : p :: ws = vs := by simpa [dFrs, e, e2] using h
        rw [← h', dFr_eq e, dFrs_eq e2]; rfl
theorem dVs_eq {d : D} {vs : List (Int × Int)} (h : dVs d = some vs) : d = VD vs := by
  cases d with
  | lst ds => rw [dFrs_eq (show dFrs ds = some vs from h)]
  | _ => simp [dVs] at h
@[simp] theorem dVs_VD (vs : List (Int × Int)) : dVs (VD vs) = some vs := by
  have h : ∀ vs : List (Int × Int), dFrs (vs.map fD) = some vs := fun vs => by
    induction vs with
    | nil => rfl
    | cons x xs ih => simp [dFrs, dFr, ih]
  exact h vs
/-- a rule: not without polynomials, the last one not nought, no nought at an end -/
def okRule (ls : List (List Int)) : Bool := decide (0 < ls.length) && decide (ls.getD (ls.length - 1) [] ≠ []) && ls.all fun p => decide (trim p = p)
theorem okRule_iff {ls : List (List Int)} : okRule ls = true ↔ 0 < ls.length ∧ ls.getD (ls.length - 1) [] ≠ [] ∧ ∀ p ∈ ls, trim p = p := by
  unfold okRule
  simp only [Bool.and_eq_true, decide_eq_true_eq, List.all_eq_true]
  exact ⟨fun h => ⟨h.1.1, h.1.2, h.2⟩, fun h => ⟨⟨h.1, h.2.1⟩, h.2.2⟩⟩
/-- values times weights, as a top and a bottom -/
def wgh : List Int → List (Int × Int) → Int × Int → Int × Int
  | w :: ws, v :: vs, (t, b) => wgh ws vs (t * v.2 + w * v.1 * b, b * v.2)
  | _, _, a => a
theorem trim_ends {p : List Int} : trim p = p ↔ ¬ (0 < p.length ∧ co p (p.length - 1) = 0) := by
  constructor
  · rintro h ⟨h1, h2⟩
    exact last_trim h h1 h2
  · intro h
    exact trim_last fun h1 h2 => h ⟨h1, h2⟩
/-- a walk that perhaps raises at the first i with t i -/
theorem for_firstX {fg : FG} {F : FS} {g : Nat → R} {n : Nat} {r : Env} {x : Ec} (P : Nat → Env → Prop) (t : Nat → Bool) (h0 : P 0 r)
    (step : ∀ (i : Nat) (r : Env), i < n → P i r → ∃ r1, fg (g i) r = some r1 ∧ (t i = true → ∃ z, F r1 = .exc x z) ∧ (t i = false → ∃ r', F r1 = .nx r' ∧ P (i + 1) r')) :
    (∃ i, i < n ∧ t i = true ∧ (∀ j, j < i → t j = false) ∧ ∃ z, forL fg F ((List.range n).map g) r = .exc x z) ∨ ((∀ i, i < n → t i = false) ∧ ∃ r', forL fg F ((List.range n).map g) r = .nx r' ∧ P n r') := by
  have go : ∀ (m k : Nat) (r : Env), k + m = n → (∀ j, j < k → t j = false) → P k r → (∃ i, i < n ∧ t i = true ∧ (∀ j, j < i → t j = false) ∧ ∃ z, forL fg F ((List.range' k m).map g) r = .exc x z) ∨ ((∀ i, i < n → t i = false) ∧ ∃ r', forL fg F ((List.range' k m).map g) r = .nx r' ∧ P n r') := by
    intro m
    induction m with
    | zero =>
      intro k r hk hj hp
      have e : k = n := by omega
      subst e
      exact .inr ⟨hj, r, rfl, hp⟩
    | succ m ih =>
      intro k r hk hj hp
      obtain ⟨r1, e1, h1, h2⟩ := step k r (by omega) hp
      rw [List.range'_succ, List.map_cons]
      cases ht : t k with
      | true =>
        obtain ⟨z, hz⟩ := h1 ht
        refine .inl ⟨k, by omega, ht, hj, z, ?_⟩
        unfold forL
        rw [e1]
        simp only [hz]
      | false =>
        obtain ⟨r', e2, hp'⟩ := h2 ht
        rw [forL_cons e1 e2]
        refine ih (k + 1) r' (by omega) (fun j hjk => ?_) hp'
        by_cases e : j = k
        · rw [e]; exact ht
        · exact hj j (by omega)
  have h := go n 0 r (by omega) (fun j hj => by omega) h0
  rwa [← List.range_eq_range'] at h
theorem run_nx {n : Nat} {os : List O} {F : FS} {r' : Env} (h : F (startE n os) = .nx r') : runF n F os = .ok (.fz .non) := by simp [runF, h]
theorem getD_mem {α : Type} {xs : List α} {k : Nat} {d : α} (h : k < xs.length) : xs.getD k d ∈ xs := by
  rw [List.getD_eq_getElem?_getD, List.getElem?_eq_getElem h]
  exact List.getElem_mem h
theorem getD_lt {α : Type} {xs : List α} {k : Nat} {d : α} (h : k < xs.length) : xs.getD k d = xs[k] := by
  rw [List.getD_eq_getElem?_getD, List.getElem?_eq_getElem h]; rfl
theorem tup_i0 {i : Nat} {w : Bool} {r : Env} {a b : Int} (h : r[i]? = some (.vl w (.fz (fD (a, b))))) : eIx (eVar i) (eC (.int 0)) r = .ok (.nw (I a)) := by
  rw [ix_nw (var_of h) (eC_ev _) (d := .int a)]
  rfl
theorem tup_i1 {i : Nat} {w : Bool} {r : Env} {a b : Int} (h : r[i]? = some (.vl w (.fz (fD (a, b))))) : eIx (eVar i) (eC (.int 1)) r = .ok (.nw (I b)) := by
  rw [ix_nw (var_of h) (eC_ev _) (d := .int b)]
  rfl
theorem itsL_VD (vs : List (Int × Int)) : itsL (.nw (.fz (VD vs))) = .ok (vs.map fun p => .nw (.fz (fD p))) := by
  simp [itsL]
theorem items_VD (vs : List (Int × Int)) : items (.fz (VD vs)) = some (vs.map fun p => .fz (fD p)) := by simp
/-- one pass: divided by x - b, the rest first -/
def sdiv (b : Int) : List Int → List Int
  | [] => []
  | x :: xs => match sdiv b xs with
    | [] => [x]
    | c :: q => (x + b * c) :: c :: q
theorem sdiv_length (b : Int) : ∀ xs : List Int, (sdiv b xs).length = xs.length
  | [] => rfl
  | x :: xs => by
    have ih := sdiv_length b xs
    unfold sdiv
    cases e : sdiv b xs with
    | nil =>
      rw [e] at ih
      have : xs = [] := List.length_eq_zero_iff.mp ih.symm
      subst this; rfl
    | cons c q => rw [e] at ih; simp at ih ⊢; omega
theorem sdiv_lt {b : Int} {m c : Nat} (hb : b.natAbs < 2 ^ c) : ∀ {xs : List Int}, BL m xs → BL (m + (c + 1) * xs.length) (sdiv b xs)
  | [], _ => fun y hy => nomatch hy
  | x :: xs, h => by
    have ih := sdiv_lt hb h.tail
    have e : (c + 1) * (x :: xs).length = (c + 1) * xs.length + (c + 1) := by rw [List.length_cons, Nat.mul_add, Nat.mul_one]
    rw [e]
    unfold sdiv
    cases es : sdiv b xs with
    | nil =>
      intro y hy
      have : y = x := by simpa using hy
      subst this
      exact lt_up h.head (by omega)
    | cons d q =>
      rw [es] at ih
      have h1 := natAbs_mul_lt hb ih.head (Nat.le_refl _)
      intro y hy
      rcases List.mem_cons.mp hy with e2 | e2
      · rw [e2]
        exact natAbs_add_lt (m := c + (m + (c + 1) * xs.length)) (lt_up h.head (by omega)) h1 (by omega)
      · exact lt_up (ih y e2) (by omega)
theorem sdiv_last (b : Int) : ∀ xs : List Int, (sdiv b xs).getLast? = xs.getLast?
  | [] => rfl
  | x :: xs => by
    have ih := sdiv_last b xs
    have hl := sdiv_length b xs
    unfold sdiv
    cases e : sdiv b xs with
    | nil =>
      rw [e] at hl
      have : xs = [] := List.length_eq_zero_iff.mp hl.symm
      subst this; rfl
    | cons c q =>
      rw [e] at ih hl
      cases xs with
      | nil => simp at hl
      | cons y ys => rw [List.getLast?_cons_cons, List.getLast?_cons_cons]; exact ih
theorem pev_sdiv (b n : Int) : ∀ (xs : List Int) {c : Int} {q : List Int}, sdiv b xs = c :: q → pev n xs = c + (n - b) * pev n q
  | [], c, q, h => by simp [sdiv] at h
  | x :: xs, c, q, h => by
    have hl := sdiv_length b xs
    unfold sdiv at h
    cases e : sdiv b xs with
    | nil =>
      rw [e] at h hl
      have : xs = [] := List.length_eq_zero_iff.mp hl.symm
      subst this
      simp at h
      obtain ⟨h1, h2⟩ := h
      subst h1 h2
      simp [pev]
    | cons d p =>
      rw [e] at h
      simp at h
      obtain ⟨h1, h2⟩ := h
      subst h1 h2
      have ih := pev_sdiv b n xs e
      rw [pev, ih, pev]
      have e1 : (n - b) * (pev n p * n + d) = (n - b) * pev n p * n + (n * d - b * d) := by rw [Int.mul_add, ← Int.mul_assoc, Int.sub_mul n b d]
      have e2 : (d + (n - b) * pev n p) * n = n * d + (n - b) * pev n p * n := by rw [Int.add_mul, Int.mul_comm d n]
      rw [e1, e2]; omega
def shiftL (b : Int) : Nat → List Int → List Int
  | 0, _ => []
  | k + 1, xs => match sdiv b xs with
    | [] => []
    | c :: q => c :: shiftL b k q
def pshift (b : Int) (xs : List Int) : List Int := shiftL b xs.length xs
theorem shiftL_length (b : Int) : ∀ (k : Nat) (xs : List Int), xs.length = k → (shiftL b k xs).length = k
  | 0, _, _ => rfl
  | k + 1, xs, h => by
    have hl := sdiv_length b xs
    unfold shiftL
    cases e : sdiv b xs with
    | nil => rw [e] at hl; simp at hl; omega
    | cons c q =>
      rw [e] at hl
      simp at hl ⊢
      exact shiftL_length b k q (by omega)
theorem pshift_length (b : Int) (xs : List Int) : (pshift b xs).length = xs.length := shiftL_length b _ xs rfl
theorem pev_shiftL (b n : Int) : ∀ (k : Nat) (xs : List Int), xs.length = k → pev n (shiftL b k xs) = pev (n + b) xs
  | 0, xs, h => by rw [List.length_eq_zero_iff.mp h]; rfl
  | k + 1, xs, h => by
    have hl := sdiv_length b xs
    unfold shiftL
    cases e : sdiv b xs with
    | nil => rw [e] at hl; simp at hl; omega
    | cons c q =>
      rw [e] at hl
      simp at hl
      rw [pev_sdiv b (n + b) xs e]
      show pev n (shiftL b k q) * n + c = _
      rw [pev_shiftL b n k q (by omega), show n + b - b = n by omega, Int.mul_comm]
      omega
theorem pev_pshift (b n : Int) (xs : List Int) : pev n (pshift b xs) = pev (n + b) xs := pev_shiftL b n _ xs rfl
theorem shiftL_lt {b : Int} {c N : Nat} (hb : b.natAbs < 2 ^ c) : ∀ (k m : Nat) (xs : List Int), xs.length = k → k ≤ N → BL m xs → BL (m + (c + 1) * N * k) (shiftL b k xs)
  | 0, m, xs, _, _, _ => fun y hy => nomatch hy
  | k + 1, m, xs, h, hN, hx => by
    have hl := sdiv_length b xs
    have hs := sdiv_lt hb hx
    have e1 : (c + 1) * xs.length ≤ (c + 1) * N := Nat.mul_le_mul_left _ (by omega)
    have e2 : (c + 1) * N * (k + 1) = (c + 1) * N * k + (c + 1) * N := by rw [Nat.mul_add, Nat.mul_one]
    unfold shiftL
    cases e : sdiv b xs with
    | nil => exact fun y hy => nomatch hy
    | cons d q =>
      rw [e] at hl hs
      simp at hl
      intro y hy
      rcases List.mem_cons.mp hy with e3 | e3
      · rw [e3]; exact lt_up hs.head (by omega)
      · have ih := shiftL_lt (N := N) hb k (m + (c + 1) * N) q (by omega) (by omega) (hs.tail.up (by omega))
        exact lt_up (ih y e3) (by omega)
theorem pshift_lt {b : Int} {c m N : Nat} {xs : List Int} (hb : b.natAbs < 2 ^ c) (hx : BL m xs) (hl : xs.length ≤ N) : BL (m + (c + 1) * N * N) (pshift b xs) := by
  have h := shiftL_lt hb xs.length m xs rfl hl hx
  exact h.up (by have : (c + 1) * N * xs.length ≤ (c + 1) * N * N := Nat.mul_le_mul_left _ hl; omega)
theorem shiftL_last (b : Int) : ∀ (k : Nat) (xs : List Int), xs.length = k → (shiftL b k xs).getLast? = xs.getLast?
  | 0, xs, h => by rw [List.length_eq_zero_iff.mp h]; rfl
  | k + 1, xs, h => by
    have hl := sdiv_length b xs
    have hs := sdiv_last b xs
    unfold shiftL
    cases e : sdiv b xs with
    | nil => rw [e] at hl; simp at hl; omega
    | cons c q =>
      rw [e] at hl hs
      simp at hl
      rw [← hs]
      have ih := shiftL_last b k q (by omega)
      cases q with
      | nil =>
        have : k = 0 := by simp at hl; omega
        subst this; rfl
      | cons y ys =>
        have hk := shiftL_length b k (y :: ys) (by omega)
        cases e2 : shiftL b k (y :: ys) with
        | nil => rw [e2] at hk; simp at hk hl; omega
        | cons z zs =>
          rw [e2] at ih
          show (c :: shiftL b k (y :: ys)).getLast? = _
          rw [e2, List.getLast?_cons_cons, List.getLast?_cons_cons, ih]
theorem pshift_last (b : Int) (xs : List Int) : (pshift b xs).getLast? = xs.getLast? := shiftL_last b _ xs rfl
theorem pshift_back {b : Int} (xs : List Int) : pshift (-b) (pshift b xs) = xs :=
  pev_inj 0 (by rw [pshift_length, pshift_length]) fun n _ => by rw [pev_pshift, pev_pshift]; congr 1; omega
/-- one step within a pass -/
theorem sdiv_set {b : Int} {f : List Int} {k : Nat} (h : k + 1 < f.length) : ∃ c, (f.take (k + 1) ++ sdiv b (f.drop (k + 1)))[k + 1]? = some c ∧ c ∈ sdiv b (f.drop (k + 1)) ∧ (f.take (k + 1) ++ sdiv b (f.drop (k + 1)))[k]? = some f[k] ∧
    (f.take (k + 1) ++ sdiv b (f.drop (k + 1))).set k (f[k] + b * c) = f.take k ++ sdiv b (f.drop k) := by
  have hd : f.drop k = f[k] :: f.drop (k + 1) := List.drop_eq_getElem_cons (by omega)
  have ht : f.take (k + 1) = f.take k ++ [f[k]] := List.take_succ_eq_append_getElem (by omega)
  have lt : (f.take k).length = k := by rw [List.length_take]; omega
  have hl := sdiv_length b (f.drop (k + 1))
  rw [List.length_drop] at hl
  cases e : sdiv b (f.drop (k + 1)) with
  | nil => rw [e] at hl; simp at hl; omega
  | cons c q =>
    refine ⟨c, ?_, List.mem_cons_self, ?_, ?_⟩
    · rw [ht, List.append_assoc, List.getElem?_append_right (by omega), lt]
      simp
    · rw [ht, List.append_assoc, List.getElem?_append_right (by omega), lt]
      simp
    · rw [ht, hd]
      unfold sdiv
      rw [e, List.append_assoc, List.set_append_right _ _ (by omega), lt, Nat.sub_self]
      rfl
def shOk (xs : List Int) (b : Int) : Bool := decide (xs.length ≤ 100) && (bitB 100000 xs && decide (b.natAbs < 2 ^ 80))
theorem shOk_of {xs : List Int} {b : Int} (a : Nat) (h0 : 0 < a) (ha : a ≤ 100000) (hl : xs.length ≤ 100) (hx : BL a xs) (hb : b.natAbs < 2 ^ 80) : shOk xs b = true := by
  unfold shOk
  rw [decide_eq_true hl, bitB_of (by omega) (hx.up ha), decide_eq_true hb]; rfl
theorem shOk_iff {xs : List Int} {b : Int} (h : shOk xs b = true) : xs.length ≤ 100 ∧ BL 100000 xs ∧ b.natAbs < 2 ^ 80 := by
  unfold shOk at h
  simp only [Bool.and_eq_true, decide_eq_true_eq] at h
  exact ⟨h.1, bitB_iff h.2.1, h.2.2⟩
theorem pshift_add (a b : Int) (xs : List Int) : pshift a (pshift b xs) = pshift (a + b) xs :=
  pev_inj 0 (by rw [pshift_length, pshift_length, pshift_length]) fun n _ => by rw [pev_pshift, pev_pshift, pev_pshift]; congr 1; omega
theorem pshift_zero (xs : List Int) : pshift 0 xs = xs := pev_inj 0 (by rw [pshift_length]) fun n _ => by rw [pev_pshift]; congr 1; omega
theorem rng1_any {n : Int} (h : -(2 ^ 62) ≤ n) (h2 : n < 2 ^ 62) : rng1 [.fz (.int n)] = .ok ((List.range n.toNat).map fun (k : Nat) => intR (k : Int)) := by
  show (if small62 n = true then Res.ok (rngL 0 n.toNat) else .bad) = _
  rw [if_pos (show small62 n = true from decide_eq_true ⟨h, h2⟩), rngL_eq]
def M_poly_value : List O → Res O
  | [o, .fz (.int n)] => match asIL o with
    | some xs => if valOk xs n then .ok (I (pev n xs)) else .bad
    | none => .bad
  | _ => .bad
theorem value_ok {o : O} {xs : List Int} {n : Int} (h : asIL o = some xs) (hv : valOk xs n = true) : M_poly_value [o, I n] = .ok (I (pev n xs)) := by simp [M_poly_value, h, hv]
def M_shifted : List O → Res O
  | [o, .fz (.int b)] => match asIL o with
    | some xs => if shOk xs b then .ok (nO (pshift b xs)) else .bad
    | none => .bad
  | _ => .bad
theorem shift_ok {o : O} {xs : List Int} {b : Int} (h : asIL o = some xs) (hv : shOk xs b = true) : M_shifted [o, I b] = .ok (nO (pshift b xs)) := by simp [M_shifted, h, hv]
/-- the divisor with the bottom's sign -/
def sgcd (a b : Int) : Int := if b < 0 then -gcdI a b else gcdI a b
def small9 (a : Int) : Bool := decide (a.natAbs.log2 < 9000)
def rtop (a b : Int) : Int := a.fdiv (sgcd a b)
def rbot (a b : Int) : Int := b.fdiv (sgcd a b)
theorem gcdI_pos {a b : Int} (h : b ≠ 0) : 0 < gcdI a b := by
  unfold gcdI
  have : 0 < Int.gcd a b := Int.gcd_pos_of_ne_zero_right a h
  omega
theorem sgcd_ne {a b : Int} (h : b ≠ 0) : sgcd a b ≠ 0 := by
  have := gcdI_pos (a := a) h
  unfold sgcd
  split <;> omega
theorem gDiv_s9 {i j : Int} (h : j ≠ 0) (h2 : small9 j = true) : gDiv (.fz (.int i)) (.fz (.int j)) = .ok (.nw (.fz (.int (i.fdiv j)))) := gDiv_ev h (of_decide_eq_true h2)
theorem small9_lt {a : Int} (k : Nat) (h0 : 0 < k) (hk : k ≤ 9000) (h : a.natAbs < 2 ^ k) : small9 a = true := by
  have := PySem.Flt.log2_lt_of h0 h
  unfold small9
  exact decide_eq_true (by omega)
theorem sgcd_natAbs (a b : Int) : (sgcd a b).natAbs = Int.gcd a b := by
  unfold sgcd gcdI
  split <;> simp
theorem sgcd_le {a b : Int} (h : b ≠ 0) : (sgcd a b).natAbs ≤ b.natAbs := by
  rw [sgcd_natAbs]
  exact Nat.le_of_dvd (by omega) (Int.gcd_dvd_natAbs_right a b)
theorem sgcd_dl (a b : Int) : sgcd a b ∣ a := by
  unfold sgcd gcdI
  split
  · exact Int.neg_dvd.mpr (Int.gcd_dvd_left a b)
  · exact Int.gcd_dvd_left a b
theorem sgcd_dr (a b : Int) : sgcd a b ∣ b := by
  unfold sgcd gcdI
  split
  · exact Int.neg_dvd.mpr (Int.gcd_dvd_right a b)
  · exact Int.gcd_dvd_right a b
theorem rtop_mul (a b : Int) : sgcd a b * rtop a b = a := by
  unfold rtop
  rw [Int.fdiv_eq_ediv_of_dvd (sgcd_dl a b)]
  exact Int.mul_ediv_cancel' (sgcd_dl a b)
theorem rbot_mul (a b : Int) : sgcd a b * rbot a b = b := by
  unfold rbot
  rw [Int.fdiv_eq_ediv_of_dvd (sgcd_dr a b)]
  exact Int.mul_ediv_cancel' (sgcd_dr a b)
theorem rbot_pos {a b : Int} (h : b ≠ 0) : 1 ≤ rbot a b := by
  have h1 := rbot_mul a b
  have h2 := gcdI_pos (a := a) h
  unfold sgcd at h1
  by_cases hn : b < 0
  · rw [if_pos hn] at h1
    by_cases h3 : rbot a b ≤ 0
    · have := Int.mul_nonneg_of_nonpos_of_nonpos (show -gcdI a b ≤ 0 by omega) h3
      omega
    · omega
  · rw [if_neg hn] at h1
    by_cases h3 : rbot a b ≤ 0
    · have := Int.mul_nonpos_of_nonneg_of_nonpos (show 0 ≤ gcdI a b by omega) h3
      omega
    · omega
theorem r_gcd {a b : Int} (h : b ≠ 0) : gcdI (rtop a b) (rbot a b) = 1 := by
  unfold gcdI rtop rbot
  rw [Int.fdiv_eq_ediv_of_dvd (sgcd_dl a b), Int.fdiv_eq_ediv_of_dvd (sgcd_dr a b), Int.gcd_eq_natAbs_gcd_natAbs, Int.natAbs_ediv_of_dvd (sgcd_dl a b), Int.natAbs_ediv_of_dvd (sgcd_dr a b), sgcd_natAbs, Int.gcd_eq_natAbs_gcd_natAbs,
    Nat.gcd_div_gcd_div_gcd_of_pos_right (by omega)]
  rfl
theorem r_cross (a b : Int) : rtop a b * b = a * rbot a b := by
  have h1 := rtop_mul a b
  have h2 := rbot_mul a b
  calc rtop a b * b = rtop a b * (sgcd a b * rbot a b) := by rw [h2]
    _ = (sgcd a b * rtop a b) * rbot a b := by rw [← Int.mul_assoc, Int.mul_comm (rtop a b)]
    _ = a * rbot a b := by rw [h1]
theorem rtop_le {a b : Int} (h : b ≠ 0) : (rtop a b).natAbs ≤ a.natAbs := by
  have h1 := congrArg Int.natAbs (rtop_mul a b)
  rw [Int.natAbs_mul] at h1
  have h2 : 0 < (sgcd a b).natAbs := by have := sgcd_ne (a := a) h; omega
  rw [← h1]
  exact Nat.le_mul_of_pos_left _ h2
theorem rbot_le {a b : Int} (h : b ≠ 0) : (rbot a b).natAbs ≤ b.natAbs := by
  have h1 := congrArg Int.natAbs (rbot_mul a b)
  rw [Int.natAbs_mul] at h1
  have h2 : 0 < (sgcd a b).natAbs := by have := sgcd_ne (a := a) h; omega
  exact Nat.le_trans (Nat.le_mul_of_pos_left _ h2) (Nat.le_of_eq h1)
def M_divisor : List O → Res O
  | [.fz (.int a), .fz (.int b)] => .ok (.fz (.int (gcdI a b)))
  | _ => .bad
def M_ratio : List O → Res O
  | [.fz (.int a), .fz (.int b)] => if b = 0 then .exc ⟨"NoNumber", []⟩ else if small9 (sgcd a b) then .ok (.fz (.tup [.int (rtop a b), .int (rbot a b)])) else .bad
  | _ => .bad
def sgn1 : List Int → Bool
  | [] => false
  | x :: t => !decide (x = 0) && (decide (0 ≤ minL x t) || decide (maxL x t ≤ 0))
theorem sgn1_iff {xs : List Int} : sgn1 xs = true ↔ ∃ x t, xs = x :: t ∧ x ≠ 0 ∧ ((∀ y ∈ xs, 0 ≤ y) ∨ ∀ y ∈ xs, y ≤ 0) := by
  cases xs with
  | nil => simp [sgn1]
  | cons x t =>
    simp only [sgn1, Bool.and_eq_true, Bool.or_eq_true, Bool.not_eq_true', decide_eq_false_iff_not, decide_eq_true_eq]
    obtain ⟨a1, a2⟩ := minL_le t x
    obtain ⟨b1, b2⟩ := maxL_ge t x
    constructor
    · rintro ⟨h1, h2 | h2⟩
      · refine ⟨x, t, rfl, h1, .inl fun y hy => ?_⟩
        rcases List.mem_cons.mp hy with h | h
        · omega
        · have := a2 y h; omega
      · refine ⟨x, t, rfl, h1, .inr fun y hy => ?_⟩
        rcases List.mem_cons.mp hy with h | h
        · omega
        · have := b2 y h; omega
    · rintro ⟨x', t', e, h1, h2⟩
      cases e
      refine ⟨h1, ?_⟩
      rcases h2 with h2 | h2
      · exact .inl (h2 _ (minL_mem t x))
      · exact .inr (h2 _ (maxL_mem t x))
def M_one_sign : List O → Res O
  | [o] => match asIL o with
    | some xs => .ok (.fz (.bl (sgn1 xs)))
    | none => .bad
  | _ => .bad
theorem sign_ok {o : O} {xs : List Int} (h : asIL o = some xs) : M_one_sign [o] = .ok (.fz (.bl (sgn1 xs))) := by simp [M_one_sign, h]
theorem pev_nonneg {t : Int} (ht : 0 ≤ t) : ∀ {xs : List Int}, (∀ y ∈ xs, 0 ≤ y) → 0 ≤ pev t xs
  | [], _ => Int.le_refl _
  | x :: xs, h => by
    have ih := pev_nonneg ht (xs := xs) fun y hy => h y (List.mem_cons_of_mem _ hy)
    have h1 := Int.mul_nonneg ih ht
    have h2 := h x List.mem_cons_self
    show 0 ≤ pev t xs * t + x
    omega
theorem pev_nonpos {t : Int} (ht : 0 ≤ t) : ∀ {xs : List Int}, (∀ y ∈ xs, y ≤ 0) → pev t xs ≤ 0
  | [], _ => Int.le_refl _
  | x :: xs, h => by
    have ih := pev_nonpos ht (xs := xs) fun y hy => h y (List.mem_cons_of_mem _ hy)
    have h1 := Int.mul_nonpos_of_nonpos_of_nonneg ih ht
    have h2 := h x List.mem_cons_self
    show pev t xs * t + x ≤ 0
    omega
theorem clear_ne {xs : List Int} {m n : Int} (h : sgn1 (pshift m xs) = true) (hn : m ≤ n) : pev n xs ≠ 0 := by
  obtain ⟨c, q, e, h0, h1⟩ := sgn1_iff.mp h
  have hv : pev n xs = pev (n - m) (c :: q) := by rw [← e, pev_pshift]; congr 1; omega
  have hd : 0 ≤ n - m := by omega
  rw [e] at h1
  rw [hv]
  show pev (n - m) q * (n - m) + c ≠ 0
  rcases h1 with h1 | h1
  · have h2 := Int.mul_nonneg (pev_nonneg hd (xs := q) fun y hy => h1 y (List.mem_cons_of_mem _ hy)) hd
    have h3 := h1 c List.mem_cons_self
    omega
  · have h2 := Int.mul_nonpos_of_nonpos_of_nonneg (pev_nonpos hd (xs := q) fun y hy => h1 y (List.mem_cons_of_mem _ hy)) hd
    have h3 := h1 c List.mem_cons_self
    omega
theorem sdiv_nn {b : Int} (hb : 0 ≤ b) : ∀ {xs : List Int}, (∀ y ∈ xs, 0 ≤ y) → ∀ y ∈ sdiv b xs, 0 ≤ y
  | [], _ => fun y hy => nomatch hy
  | x :: xs, h => by
    have ih := sdiv_nn hb (xs := xs) fun y hy => h y (List.mem_cons_of_mem _ hy)
    unfold sdiv
    cases es : sdiv b xs with
    | nil => intro y hy; have : y = x := by simpa using hy
             subst this; exact h _ List.mem_cons_self
    | cons c q =>
      rw [es] at ih
      intro y hy
      rcases List.mem_cons.mp hy with e | e
      · rw [e]
        have h1 := Int.mul_nonneg hb (ih c List.mem_cons_self)
        have h2 := h x List.mem_cons_self
        omega
      · exact ih y e
theorem sdiv_np {b : Int} (hb : 0 ≤ b) : ∀ {xs : List Int}, (∀ y ∈ xs, y ≤ 0) → ∀ y ∈ sdiv b xs, y ≤ 0
  | [], _ => fun y hy => nomatch hy
  | x :: xs, h => by
    have ih := sdiv_np hb (xs := xs) fun y hy => h y (List.mem_cons_of_mem _ hy)
    unfold sdiv
    cases es : sdiv b xs with
    | nil => intro y hy; have : y = x := by simpa using hy
             subst this; exact h _ List.mem_cons_self
    | cons c q =>
      rw [es] at ih
      intro y hy
      rcases List.mem_cons.mp hy with e | e
      · rw [e]
        have h1 := Int.mul_nonpos_of_nonneg_of_nonpos hb (ih c List.mem_cons_self)
        have h2 := h x List.mem_cons_self
        omega
      · exact ih y e
theorem shiftL_nn {b : Int} (hb : 0 ≤ b) : ∀ (k : Nat) (xs : List Int), (∀ y ∈ xs, 0 ≤ y) → ∀ y ∈ shiftL b k xs, 0 ≤ y
  | 0, _, _ => fun y hy => nomatch hy
  | k + 1, xs, h => by
    have h2 := sdiv_nn hb h
    unfold shiftL
    cases es : sdiv b xs with
    | nil => exact fun y hy => nomatch hy
    | cons c q =>
      rw [es] at h2
      intro y hy
      rcases List.mem_cons.mp hy with e | e
      · rw [e]; exact h2 c List.mem_cons_self
      · exact shiftL_nn hb k q (fun y hy => h2 y (List.mem_cons_of_mem _ hy)) y e
theorem shiftL_np {b : Int} (hb : 0 ≤ b) : ∀ (k : Nat) (xs : List Int), (∀ y ∈ xs, y ≤ 0) → ∀ y ∈ shiftL b k xs, y ≤ 0
  | 0, _, _ => fun y hy => nomatch hy
  | k + 1, xs, h => by
    have h2 := sdiv_np hb h
    unfold shiftL
    cases es : sdiv b xs with
    | nil => exact fun y hy => nomatch hy
    | cons c q =>
      rw [es] at h2
      intro y hy
      rcases List.mem_cons.mp hy with e | e
      · rw [e]; exact h2 c List.mem_cons_self
      · exact shiftL_np hb k q (fun y hy => h2 y (List.mem_cons_of_mem _ hy)) y e
/-- clear from a place on: clear from each later place on -/
theorem sgn1_up {xs : List Int} {a b : Int} (h : sgn1 (pshift a xs) = true) (hab : a ≤ b) : sgn1 (pshift b xs) = true := by
  obtain ⟨c, q, e, h0, h1⟩ := sgn1_iff.mp h
  have e2 : pshift b xs = pshift (b - a) (c :: q) := by rw [← e, pshift_add]; congr 1; omega
  have hl := pshift_length (b - a) (c :: q)
  cases e3 : pshift (b - a) (c :: q) with
  | nil => rw [e3] at hl; simp at hl
  | cons c' q' =>
    rw [e2, e3]
    refine sgn1_iff.mpr ⟨c', q', rfl, fun z => ?_, ?_⟩
    · have h2 := clear_ne h hab
      have h3 : pev 0 (pshift b xs) = pev b xs := by rw [pev_pshift]; congr 1; omega
      rw [e2, e3, z] at h3
      apply h2; rw [← h3]; simp [pev]
    · rw [← e3]
      rw [e] at h1
      rcases h1 with h1 | h1
      · exact .inl (shiftL_nn (by omega) _ _ h1)
      · exact .inr (shiftL_np (by omega) _ _ h1)
/-- the least place up to 60 from which it is clear -/
def rch (xs : List Int) : Option Nat := (List.range 61).find? fun m => sgn1 (pshift m xs)
def rcOk (xs : List Int) : Bool := decide (xs.length ≤ 50) && bitB 10000 xs
theorem rcOk_of {xs : List Int} (a : Nat) (h0 : 0 < a) (ha : a ≤ 10000) (hl : xs.length ≤ 50) (hx : BL a xs) : rcOk xs = true := by
  unfold rcOk
  rw [decide_eq_true hl, bitB_of (by omega) (hx.up ha)]; rfl
theorem rcOk_iff {xs : List Int} (h : rcOk xs = true) : xs.length ≤ 50 ∧ BL 10000 xs := by
  unfold rcOk at h
  simp only [Bool.and_eq_true, decide_eq_true_eq] at h
  exact ⟨h.1, bitB_iff h.2⟩
theorem rcOk_sh {xs : List Int} (h : rcOk xs = true) {m : Int} (hm : m.natAbs < 2 ^ 8) : BL 40000 (pshift m xs) := by
  obtain ⟨h1, h2⟩ := rcOk_iff h
  exact (pshift_lt hm h2 h1).up (by omega)
def M_reach : List O → Res O
  | [o] => match asIL o with
    | some xs => if xs = [] then .exc ⟨"NoNumber", []⟩ else if rcOk xs then (match rch xs with
      | some m => .ok (I m)
      | none => .exc ⟨"TooGreat", []⟩) else .bad
    | none => .bad
  | _ => .bad
theorem rch_some {xs : List Int} {i : Nat} (hi : i < 61) (h : sgn1 (pshift i xs) = true) (hj : ∀ j : Nat, j < i → sgn1 (pshift j xs) = false) : rch xs = some i := by
  unfold rch
  rw [List.find?_eq_some_iff_append]
  refine ⟨h, List.range i, List.range' (i + 1) (60 - i), ?_, fun j hj' => ?_⟩
  · rw [List.range_eq_range', List.range_eq_range']
    have e : i :: List.range' (i + 1) (60 - i) = List.range' i (61 - i) := by rw [show 61 - i = 60 - i + 1 by omega, List.range'_succ]
    rw [e, show (61 : Nat) = i + (61 - i) by omega, ← List.range'_append_1]
    simp
  · have := hj j (by simpa using hj')
    simp [this]
theorem rch_none {xs : List Int} (h : ∀ i : Nat, i < 61 → sgn1 (pshift i xs) = false) : rch xs = none := by
  unfold rch
  rw [List.find?_eq_none]
  intro i hi
  have := h i (by simpa using hi)
  simp [this]
theorem rch_is {xs : List Int} {i : Nat} (h : rch xs = some i) : i < 61 ∧ sgn1 (pshift i xs) = true ∧ ∀ j : Nat, j < i → sgn1 (pshift j xs) = false := by
  unfold rch at h
  have h1 := List.find?_some h
  have h2 := List.mem_of_find?_eq_some h
  have hi : i < 61 := by simpa using h2
  refine ⟨hi, h1, fun j hj => ?_⟩
  rw [List.find?_eq_some_iff_append] at h
  obtain ⟨_, as, bs, e, h3⟩ := h
  have lt : as.length = i := by
    have e2 : (List.range 61)[as.length]? = (as ++ i :: bs)[as.length]? := by rw [e]
    rw [List.getElem?_append_right (by omega), Nat.sub_self] at e2
    have : as.length < 61 := by
      by_cases hh : as.length < 61
      · exact hh
      · have := congrArg List.length e
        simp at this; omega
    rw [List.getElem?_range this] at e2
    exact Option.some.inj (e2.trans rfl)
  have hm : j ∈ as := by
    have e2 : (List.range 61)[j]? = (as ++ i :: bs)[j]? := by rw [e]
    rw [List.getElem?_range (by omega), List.getElem?_append_left (by omega)] at e2
    exact List.mem_of_getElem? e2.symm
  have := h3 j hm
  simpa using this
theorem rch_no {xs : List Int} (h : rch xs = none) {i : Nat} (hi : i < 61) : sgn1 (pshift i xs) = false := by
  unfold rch at h
  rw [List.find?_eq_none] at h
  have := h i (by simpa using hi)
  simpa using this
def M_look_at_rule : List O → Res O
  | [.fz d] => match dLL d with
    | some ls => if okRule ls then .ok (.fz .non) else .exc ⟨"NoRule", []⟩
    | none => .bad
  | _ => .bad
def M_order_of : List O → Res O
  | [.fz d] => match dLL d with
    | some ls => if okRule ls then .ok (I (ls.length - 1)) else .exc ⟨"NoRule", []⟩
    | none => .bad
  | _ => .bad
theorem order_ok {ls : List (List Int)} (h : okRule ls = true) : M_order_of [.fz (LD ls)] = .ok (I (ls.length - 1)) := by
  show (match dLL (LD ls) with
    | some ls => if okRule ls then Res.ok (I (ls.length - 1)) else .exc ⟨"NoRule", []⟩
    | none => .bad) = _
  simp only [dLL_LD, h, if_true]
theorem order_no {ls : List (List Int)} (h : okRule ls = false) : M_order_of [.fz (LD ls)] = .exc ⟨"NoRule", []⟩ := by
  show (match dLL (LD ls) with
    | some ls => if okRule ls then Res.ok (I (ls.length - 1)) else .exc ⟨"NoRule", []⟩
    | none => .bad) = _
  simp only [dLL_LD, h]; rfl

def fitV (b : Nat) (vs : List (Int × Int)) : Bool := vs.all fun p => decide (p.1.natAbs.log2 < b) && decide (p.2.natAbs.log2 < b)
theorem fitV_iff {b : Nat} {vs : List (Int × Int)} : fitV b vs = true → ∀ p ∈ vs, p.1.natAbs < 2 ^ b ∧ p.2.natAbs < 2 ^ b := fun h p hp => by
  have := List.all_eq_true.mp h p hp
  simp only [Bool.and_eq_true, decide_eq_true_eq] at this
  exact ⟨lt_of_log2 this.1, lt_of_log2 this.2⟩
theorem fitV_of {b : Nat} {vs : List (Int × Int)} (h0 : 0 < b) (h : ∀ p ∈ vs, p.1.natAbs < 2 ^ b ∧ p.2.natAbs < 2 ^ b) : fitV b vs = true := List.all_eq_true.mpr fun p hp => by
  rw [Bool.and_eq_true]
  exact ⟨decide_eq_true (log2_of_lt h0 (h p hp).1), decide_eq_true (log2_of_lt h0 (h p hp).2)⟩
def wOk (ws : List Int) (vs : List (Int × Int)) : Bool := decide (ws.length = vs.length) && decide (ws.length ≤ 8) && bitB 50000 ws && fitV 50000 vs
theorem wOk_iff {ws : List Int} {vs : List (Int × Int)} (h : wOk ws vs = true) : ws.length = vs.length ∧ ws.length ≤ 8 ∧ BL 50000 ws ∧ ∀ p ∈ vs, p.1.natAbs < 2 ^ 50000 ∧ p.2.natAbs < 2 ^ 50000 := by
  unfold wOk at h
  simp only [Bool.and_eq_true, decide_eq_true_eq] at h
  exact ⟨h.1.1.1, h.1.1.2, bitB_iff h.1.2, fitV_iff h.2⟩
theorem wOk_of {ws : List Int} {vs : List (Int × Int)} (a b : Nat) (ha : a ≤ 50000) (hb : b ≤ 50000) (h1 : ws.length = vs.length) (h2 : ws.length ≤ 8) (h3 : BL a ws) (h4 : ∀ p ∈ vs, p.1.natAbs < 2 ^ b ∧ p.2.natAbs < 2 ^ b) : wOk ws vs = true := by
  unfold wOk
  rw [decide_eq_true h1, decide_eq_true h2, bitB_of (by omega) (h3.up ha), fitV_of (by omega) fun p hp => ⟨lt_up (h4 p hp).1 hb, lt_up (h4 p hp).2 hb⟩]; rfl
def M_weighed : List O → Res O
  | [.fz d, .fz e] => match asIL (.fz d), dVs e with
    | some ws, some vs => if wOk ws vs then .ok (.fz (fD (wgh ws vs (0, 1)))) else .bad
    | _, _ => .bad
  | _ => .bad
theorem weighed_ok {ws : List Int} {vs : List (Int × Int)} (h : wOk ws vs = true) : M_weighed [lO ws, .fz (VD vs)] = .ok (.fz (fD (wgh ws vs (0, 1)))) := by
  show (match asIL (lO ws), dVs (VD vs) with
    | some ws, some vs => if wOk ws vs then Res.ok (O.fz (fD (wgh ws vs (0, 1)))) else .bad
    | _, _ => .bad) = _
  rw [asIL_lst, dVs_VD]
  simp only [h, if_true]
theorem wgh_snoc (w : Int) (v : Int × Int) : ∀ (ws : List Int) (vs : List (Int × Int)) (a : Int × Int), ws.length = vs.length → wgh (ws ++ [w]) (vs ++ [v]) a = ((wgh ws vs a).1 * v.2 + w * v.1 * (wgh ws vs a).2, (wgh ws vs a).2 * v.2)
  | [], [], (t, b), _ => rfl
  | x :: ws, y :: vs, (t, b), h => wgh_snoc w v ws vs _ (by simpa using h)
  | [], _ :: _, _, h => by simp at h
  | _ :: _, [], _, h => by simp at h
theorem wgh_take {ws : List Int} {vs : List (Int × Int)} (h : ws.length = vs.length) {i : Nat} (hi : i < ws.length) (a : Int × Int) : wgh (ws.take (i + 1)) (vs.take (i + 1)) a = ((wgh (ws.take i) (vs.take i) a).1 * (vs[i]'(by omega)).2 + ws[i] * (vs[i]'(by omega)).1 * (wgh (ws.take i) (vs.take i) a).2, (wgh (ws.take i) (vs.take i) a).2 * (vs[i]'(by omega)).2) := by
  rw [List.take_succ_eq_append_getElem hi, List.take_succ_eq_append_getElem (by omega : i < vs.length), wgh_snoc _ _ _ _ _ (by rw [List.length_take, List.length_take]; omega)]
theorem wgh_lt {a b : Nat} : ∀ (ws : List Int) (vs : List (Int × Int)) (m n : Nat) (t s : Int), BL a ws → (∀ p ∈ vs, p.1.natAbs < 2 ^ b ∧ p.2.natAbs < 2 ^ b) → t.natAbs < 2 ^ m → s.natAbs < 2 ^ n → n + a ≤ m → (wgh ws vs (t, s)).1.natAbs < 2 ^ (m + (a + b + 1) * ws.length) ∧ (wgh ws vs (t, s)).2.natAbs < 2 ^ (n + b * ws.length)
  | [], vs, m, n, t, s, _, _, h1, h2, _ => by simpa [wgh] using ⟨h1, h2⟩
  | w :: ws, [], m, n, t, s, _, _, h1, h2, _ => by
    simp only [wgh]
    exact ⟨lt_up h1 (by omega), lt_up h2 (by omega)⟩
  | w :: ws, v :: vs, m, n, t, s, hw, hv, h1, h2, hn => by
    obtain ⟨v1, v2⟩ := hv v (by simp)
    have ih := wgh_lt (a := a) (b := b) ws vs (m + (a + b + 1)) (n + b) (t * v.2 + w * v.1 * s) (s * v.2) hw.tail (fun p hp => hv p (by simp [hp]))
      (natAbs_add_lt (m := m + a + b) (natAbs_mul_lt h1 v2 (by omega)) (natAbs_mul_lt (m := a + b) (natAbs_mul_lt hw.head v1 (Nat.le_refl _)) h2 (by omega)) (by omega)) (natAbs_mul_lt h2 v2 (Nat.le_refl _)) (by omega)
    have e1 : (a + b + 1) * (w :: ws).length = (a + b + 1) + (a + b + 1) * ws.length := by rw [List.length_cons, Nat.mul_add, Nat.mul_one]; omega
    have e2 : b * (w :: ws).length = b + b * ws.length := by rw [List.length_cons, Nat.mul_add, Nat.mul_one]; omega
    rw [e1, e2]
    simp only [wgh]
    exact ⟨lt_up ih.1 (by omega), lt_up ih.2 (by omega)⟩
def cellAt (ns : List Int) (k : Int) : Int := ns.getD k.toNat 0
def M__law_cell_at : List O → Res O
  | [.fz (.scr ns), .fz (.int k)] => if 0 ≤ k then .ok (I (cellAt ns k)) else .bad
  | _ => .bad
/-- a number by a cell, most the bound of the great ones -/
def lawNumM (cc m : Int) : Int := if cc.fmod 3 = 0 then (cc.fdiv 3).fmod (2 * m - 1) - m + 1 else if cc.fmod 3 = 1 then (cc.fdiv 3).fmod 2001 - 1000 else (cc.fdiv 3).fmod 5 - 2
theorem lawNumM_lt (i : Int) {m : Int} (hm : 1000 < m) : (lawNumM i m).natAbs < m.natAbs := by
  unfold lawNumM
  split
  · have h1 := Int.fmod_nonneg_of_pos (i.fdiv 3) (show (0 : Int) < 2 * m - 1 by omega)
    have h2 := Int.fmod_lt_of_pos (i.fdiv 3) (show (0 : Int) < 2 * m - 1 by omega)
    omega
  · split
    · have h1 := Int.fmod_nonneg_of_pos (i.fdiv 3) (show (0 : Int) < 2001 by omega)
      have h2 := Int.fmod_lt_of_pos (i.fdiv 3) (show (0 : Int) < 2001 by omega)
      omega
    · have h1 := Int.fmod_nonneg_of_pos (i.fdiv 3) (show (0 : Int) < 5 by omega)
      have h2 := Int.fmod_lt_of_pos (i.fdiv 3) (show (0 : Int) < 5 by omega)
      omega
def M__law_number : List O → Res O
  | [.fz (.int i), .fz (.int m)] => if 1000 < m ∧ m < 2 ^ 300 then .ok (.fz (.int (lawNumM i m))) else .bad
  | _ => .bad
theorem num_ok {i m : Int} (h : 1000 < m) (h2 : m < 2 ^ 300) : M__law_number [I i, I m] = .ok (I (lawNumM i m)) := if_pos ⟨h, h2⟩
theorem p60 : (1000 : Int) < 10 ^ 60 ∧ (10 : Int) ^ 60 < 2 ^ 300 := by constructor <;> decide
theorem e60 (r : Env) : eOp gPow (eC (.int 10)) (eC (.int 60)) r = .ok (.nw (I (10 ^ 60))) := rfl
theorem num60_lt (i : Int) : (lawNumM i (10 ^ 60)).natAbs < 2 ^ 200 := Nat.lt_trans (lawNumM_lt _ p60.1) (by decide)
theorem cell_ok (ns : List Int) {k : Int} (h : 0 ≤ k) : M__law_cell_at [.fz (.scr ns), I k] = .ok (I (cellAt ns k)) := if_pos h
abbrev U : S := .un
abbrev scrS (ns : List Int) : S := .vl false (.fz (.scr ns))
theorem cell_c {ns : List Int} {r : Env} {k : Int} (h : 0 ≤ k) : eCall M__law_cell_at (aCons (eVar 0) (aCons (eC (.int k)) aNil)) (scrS ns :: r) = .ok (.nw (I (cellAt ns k))) :=
  call2 (x := .nw (.fz (.scr ns))) (y := .nw (I k)) rfl rfl (cell_ok ns h)
theorem cell_e {ns : List Int} {r : Env} {f : FE} {k : Int} (h : 0 ≤ k) (hf : f (scrS ns :: r) = .ok (.nw (I k))) : eCall M__law_cell_at (aCons (eVar 0) (aCons f aNil)) (scrS ns :: r) = .ok (.nw (I (cellAt ns k))) :=
  call2 (x := .nw (.fz (.scr ns))) (y := .nw (I k)) rfl hf (cell_ok ns h)
theorem e_mod {f : FE} {r : Env} {a b : Int} (h : f r = .ok (.nw (I a))) (hb : b ≠ 0) : eOp gMod f (eC (.int b)) r = .ok (.nw (I (a.fmod b))) := by
  rw [op_of h (eC_ev _)]; exact gMod_ev hb
theorem e_div {f : FE} {r : Env} {a b : Int} (h : f r = .ok (.nw (I a))) (hb : 0 < b) (h2 : b < 1073741824) : eOp gDiv f (eC (.int b)) r = .ok (.nw (I (a.fdiv b))) := by
  rw [op_of h (eC_ev _)]; exact gDiv_pos hb h2
theorem e_add {f g : FE} {r : Env} {a b : Int} (h : f r = .ok (.nw (I a))) (h2 : g r = .ok (.nw (I b))) : eOp gAddA f g r = .ok (.nw (I (a + b))) := by
  rw [op_of h h2]; rfl
theorem e_sub {f g : FE} {r : Env} {a b : Int} (h : f r = .ok (.nw (I a))) (h2 : g r = .ok (.nw (I b))) : eOp gSub f g r = .ok (.nw (I (a - b))) := by
  rw [op_of h h2]; rfl
theorem t_eq {f g : FE} {r : Env} {a b : Int} (h : f r = .ok (.nw (I a))) (h2 : g r = .ok (.nw (I b))) : tOf (eOp gEq f g) r = .ok (decide (a = b)) := by
  rw [tOf_ev, op_of h h2]; rfl
theorem t_ne {f g : FE} {r : Env} {a b : Int} (h : f r = .ok (.nw (I a))) (h2 : g r = .ok (.nw (I b))) : tOf (eOp gNe f g) r = .ok (!decide (a = b)) := by
  rw [tOf_ev, op_of h h2]; rfl
theorem t_lt {f g : FE} {r : Env} {a b : Int} (h : f r = .ok (.nw (I a))) (h2 : g r = .ok (.nw (I b))) : tOf (eOp gLt f g) r = .ok (decide (a < b)) := by
  rw [tOf_ev, op_of h h2]; rfl
theorem t_gt {f g : FE} {r : Env} {a b : Int} (h : f r = .ok (.nw (I a))) (h2 : g r = .ok (.nw (I b))) : tOf (eOp gGt f g) r = .ok (decide (b < a)) := by
  rw [tOf_ev, op_of h h2]; rfl
theorem fmod_rg {a b : Int} (h : 0 < b) : 0 ≤ a.fmod b ∧ a.fmod b < b := ⟨Int.fmod_nonneg_of_pos a h, Int.fmod_lt_of_pos a h⟩
theorem slS_scr {f : FE} {l h s : FP} {r : Env} {ns : List Int} {lo hi st : Option Int} (h1 : f r = .ok (.nw (.fz (.scr ns)))) (h2 : l r = .ok lo) (h3 : h r = .ok hi) (h4 : s r = .ok st) (h0 : st ≠ some 0) (hz : (stepL ns lo hi st).length ≤ 100000) : eSlS f l h s r = .ok (.nw (nO (stepL ns lo hi st))) := by
  simp only [eSlS, h1, h2, h3, h4, res_ok, ra_nw, er_fz, items_scr, stepL_iL, lsR_iL hz, h0, if_false]
theorem put_L {i j : Nat} {r : Env} {ls : List (List Int)} {f g : FE} {l : List Int} {k : Int} (h : r[i]? = some (.vl true (.ls (oL ls)))) (h2 : f r = .ok (.nw (lO l))) (h3 : g r = .ok (.nw (I k))) (hk : ixN ls.length k = some j) : sPut i f g r = .nx (r.set i (.vl true (.ls (oL (ls.set j l))))) := by
  have e : ixN (oL ls).length k = some j := by rw [List.length_map]; exact hk
  simp only [sPut, sUse_ev, h2, onOwn, h, allFz_oL, if_true, h3, ra_nw, er_fz, e]
  rw [show oL (ls.set j l) = (oL ls).set j (lO l) by simp [oL, List.map_set]]
theorem put_L' {i j : Nat} {r : Env} {ls : List (List Int)} {f g : FE} {x : R} {l : List Int} {k : Int} (h : r[i]? = some (.vl true (.ls (oL ls)))) (h2 : f r = .ok x) (hx : x.a = lO l) (h3 : g r = .ok (.nw (I k))) (hk : ixN ls.length k = some j) : sPut i f g r = .nx (r.set i (.vl true (.ls (oL (ls.set j l))))) := by
  have e : ixN (oL ls).length k = some j := by rw [List.length_map]; exact hk
  simp only [sPut, sUse_ev, h2, hx, onOwn, h, allFz_oL, if_true, h3, ra_nw, er_fz, e]
  rw [show oL (ls.set j l) = (oL ls).set j (lO l) by simp [oL, List.map_set]]
theorem ixN_last {n : Nat} (h : 0 < n) : ixN n (-1) = some (n - 1) := by
  unfold ixN
  rw [if_neg (by omega), if_pos (by omega)]
  congr 1; omega
theorem app1_go {i j : Nat} {r : Env} {os ps : List O} {g f : FE} {k : Int} {x : R} {d : D} (h : r[i]? = some (.vl true (.ls os))) (hg : g r = .ok (.nw (I k))) (hk : ixN os.length k = some j) (hj : os[j]? = some (.ls ps)) (ha : allFz ps = true) (hf : f r = .ok x) (hx : x.a = .fz d) (hl : ps.length ≤ 100000) :
    sApp1 i g f r = .nx (r.set i (.vl true (.ls (os.set j (.ls (ps ++ [.fz d])))))) := by
  simp only [sApp1, onLs, h, sIx, sUse_ev, hg, ra_nw, er_fz, onOwn1, hk, hj, ha, if_true, hf, hx, hl]
theorem pop1_go {i j : Nat} {r : Env} {os ps : List O} {g : FE} {k : Int} (h : r[i]? = some (.vl true (.ls os))) (hg : g r = .ok (.nw (I k))) (hk : ixN os.length k = some j) (hj : os[j]? = some (.ls ps)) (ha : allFz ps = true) (hl : ps.length ≠ 0) :
    sPop1 i g r = .nx (r.set i (.vl true (.ls (os.set j (.ls ps.dropLast))))) := by
  simp only [sPop1, onLs, h, sIx, sUse_ev, hg, ra_nw, er_fz, onOwn1, hk, hj, ha, if_true, hl, if_false]
theorem ixN_nat {n j : Nat} (h : j < n) : ixN n (j : Int) = some j := by
  unfold ixN
  rw [if_pos (by omega), if_pos (by omega)]; rfl
theorem lsR_a {os : List O} (h : os.length ≤ 100000) : ∃ x, lsR os = .ok x ∧ er x.a = .lst (ers os) := by
  unfold lsR
  rw [if_pos h]
  by_cases ha : allFz os = true
  · rw [if_pos ha]; exact ⟨_, rfl, rfl⟩
  · rw [if_neg ha]; exact ⟨_, rfl, rfl⟩
theorem gEq_bl (a b : Bool) : gEq (.fz (.bl a)) (.fz (.bl b)) = .ok (.nw (.fz (.bl (decide (a = b))))) := by cases a <;> cases b <;> rfl
theorem e_tup0 {f : FE} {r : Env} {a b : Int} (h : f r = .ok (.nw (.fz (fD (a, b))))) : eIx f (eC (.int 0)) r = .ok (.nw (I a)) := by
  rw [ix_nw h (eC_ev _) (d := .int a)]
  rfl
theorem e_tup1 {f : FE} {r : Env} {a b : Int} (h : f r = .ok (.nw (.fz (fD (a, b))))) : eIx f (eC (.int 1)) r = .ok (.nw (I b)) := by
  rw [ix_nw h (eC_ev _) (d := .int b)]
  rfl
theorem ix_VD {f g : FE} {r : Env} {vs : List (Int × Int)} {k : Int} {j : Nat} (h : f r = .ok (.nw (.fz (VD vs)))) (h2 : g r = .ok (.nw (I k))) (hk : k = (j : Int)) (hj : j < vs.length) : eIx f g r = .ok (.nw (.fz (fD vs[j]))) := by
  have e : ixO (.fz (VD vs)) k = some (.fz (fD vs[j])) := by
    show atI ((vs.map fD).map O.fz) k = _
    exact atI_ok (by omega) (by rw [show k.toNat = j by omega]; simp [hj])
  exact ix_nw h h2 e
theorem len_VD {f : FE} {r : Env} {vs : List (Int × Int)} (h : f r = .ok (.nw (.fz (VD vs)))) : eB gLen (aCons f aNil) r = .ok (.nw (I vs.length)) := by
  rw [b1 h]
  show gLen [.fz (VD vs)] = _
  have : lenO (.fz (VD vs)) = some vs.length := by
    show (items (.fz (VD vs))).map List.length = _
    rw [items_VD]; simp
  simp only [gLen, this]; rfl
theorem e_tup {f g : FE} {r : Env} {a b : Int} (h : f r = .ok (.nw (I a))) (h2 : g r = .ok (.nw (I b))) : eTup (aCons f (aCons g aNil)) r = .ok (.nw (.fz (fD (a, b)))) := by
  simp only [eTup, aCons_ev, h, h2, res_ok, aNil_ev]; rfl
theorem er_oV (vs : List (Int × Int)) : er (.ls (vs.map fun p => .fz (fD p))) = VD vs := by
  rw [er_ls, ers_eq, List.map_map]; rfl
theorem allFz_oV (vs : List (Int × Int)) : allFz (vs.map fun p => .fz (fD p)) = true := by induction vs with
  | nil => rfl
  | cons x xs ih => exact ih
theorem rngL_map (a : Int) (n : Nat) : rngL a n = (List.range n).map fun (k : Nat) => intR (a + (k : Nat)) := rfl
theorem rng2_go {fs : Env → Res (List O)} {r : Env} {a b : Int} (h : fs r = .ok [I a, I b]) (h1 : -(2 ^ 62) ≤ a) (h2 : a < 2 ^ 62) (h3 : -(2 ^ 62) ≤ b) (h4 : b < 2 ^ 62) : iRng rng2 fs r = .ok ((List.range (b - a).toNat).map fun (k : Nat) => intR (a + (k : Nat))) := by
  rw [iRng_ev, h, res_ok, rng2_ok h1 h2 h3 h4]; rfl
theorem psub_len (xs ys : List Int) : (psub xs ys).length ≤ max xs.length ys.length := by
  have := trim_length_le ((List.range (max xs.length ys.length)).map fun k => co xs k - co ys k)
  rw [List.length_map, List.length_range] at this
  exact this
theorem psub_lt {a : Nat} {xs ys : List Int} (hx : BL a xs) (hy : BL a ys) : BL (a + 1) (psub xs ys) := fun y hy' => by
  obtain ⟨k, _, rfl⟩ := List.mem_map.mp (mem_trim hy')
  exact natAbs_sub_lt (co_lt2 hx k) (co_lt2 hy k) (by omega)
theorem trim_psub (xs ys : List Int) : trim (psub xs ys) = psub xs ys := trim_nrm _ _
theorem enum_IL2 {f : FE} {r : Env} {o : O} {xs : List Int} (h : f r = .ok (.nw o)) (hx : asIL o = some xs) : iEnumD f r = .ok ((List.range xs.length).map fun (i : Nat) => tup2 (.int i) (.int (xs.getD i 0))) := by
  have h' := its_nw hx
  simp only [iEnumD, h, res_ok, h', enumR, fzsOf_map]
  congr 1
  unfold enumL
  refine List.ext_getElem? fun k => ?_
  by_cases hk : k < xs.length
  · simp [List.getElem?_zipIdx, hk]
  · simp [List.getElem?_zipIdx, hk]
theorem plain_lst {n : Nat} {ds : List D} (h : ds.all (plainD n) = true) : plainD (n + 1) (.lst ds) = true := h
theorem plain_tup {n : Nat} {ds : List D} (h : ds.all (plainD n) = true) : plainD (n + 1) (.tup ds) = true := h
theorem plain_VD (n : Nat) (vs : List (Int × Int)) : plainD (n + 2) (VD vs) = true := plain_lst (List.all_eq_true.mpr fun d hd => by
  obtain ⟨p, _, rfl⟩ := List.mem_map.mp hd
  simp [plainD])
theorem plain_LD (n : Nat) (ls : List (List Int)) : plainD (n + 2) (LD ls) = true := plain_lst (List.all_eq_true.mpr fun d hd => by
  obtain ⟨p, _, rfl⟩ := List.mem_map.mp hd
  exact plain_lD n p)
theorem bad_zero {ls : List (List Int)} {j : Nat} (hj : j < ls.length) : okRule (ls.set j (ls[j] ++ [0])) = false := by
  rw [Bool.eq_false_iff]
  intro z
  have h := (okRule_iff.mp z).2.2 (ls[j] ++ [0]) (List.mem_iff_getElem.mpr ⟨j, by rw [List.length_set]; exact hj, List.getElem_set_self _⟩)
  rw [trim_snoc0] at h
  have h2 := congrArg List.length h
  have h3 := trim_length_le ls[j]
  simp at h2
  omega
theorem bad_nil (ls : List (List Int)) : okRule (ls ++ [[]]) = false := by
  rw [Bool.eq_false_iff]
  intro z
  apply (okRule_iff.mp z).2.1
  simp
/-- values from place n on, as many as the rule has polynomials -/
def vAt (ls : List (List Int)) (vs : List (Int × Int)) (n : Nat) : List (Int × Int) := (vs.drop n).take ls.length
def kpOk (ls : List (List Int)) (vs : List (Int × Int)) (n : Nat) : Bool := ls.all (fun p => valOk p (n : Int)) && wOk (ls.map (pev (n : Int))) (vAt ls vs n) && decide (vs.length ≤ 10000)
/-- whether a rule is kept at n -/
def kept (ls : List (List Int)) (vs : List (Int × Int)) (n : Nat) : Bool := decide ((wgh (ls.map (pev (n : Int))) (vAt ls vs n) (0, 1)).1 = 0)
def M_keeps : List O → Res O
  | [.fz d, .fz e, .fz (.int n)] => match dLL d, dVs e with
    | some ls, some vs => if okRule ls = false then .exc ⟨"NoRule", []⟩ else if n < 0 ∨ (vs.length : Int) ≤ n + (ls.length - 1) then .exc ⟨"NoPlace", []⟩ else if kpOk ls vs n.toNat then .ok (.fz (.bl (kept ls vs n.toNat))) else .bad
    | _, _ => .bad
  | _ => .bad
theorem M_keeps_eq (ls : List (List Int)) (vs : List (Int × Int)) (n : Int) : M_keeps [.fz (LD ls), .fz (VD vs), I n] = if okRule ls = false then .exc ⟨"NoRule", []⟩ else if n < 0 ∨ (vs.length : Int) ≤ n + (ls.length - 1) then .exc ⟨"NoPlace", []⟩ else if kpOk ls vs n.toNat then .ok (.fz (.bl (kept ls vs n.toNat))) else .bad := by
  show (match dLL (LD ls), dVs (VD vs) with
    | some ls, some vs => if okRule ls = false then Res.exc ⟨"NoRule", []⟩ else if n < 0 ∨ (vs.length : Int) ≤ n + (ls.length - 1) then .exc ⟨"NoPlace", []⟩ else if kpOk ls vs n.toNat then .ok (O.fz (.bl (kept ls vs n.toNat))) else .bad
    | _, _ => .bad) = _
  rw [dLL_LD, dVs_VD]
theorem keeps_rule {ls : List (List Int)} (vs : List (Int × Int)) (n : Int) (h : okRule ls = false) : M_keeps [.fz (LD ls), .fz (VD vs), I n] = .exc ⟨"NoRule", []⟩ := by
  rw [M_keeps_eq, if_pos h]
theorem keeps_place {ls : List (List Int)} {vs : List (Int × Int)} {n : Int} (h : okRule ls = true) (hn : n < 0 ∨ (vs.length : Int) ≤ n + (ls.length - 1)) : M_keeps [.fz (LD ls), .fz (VD vs), I n] = .exc ⟨"NoPlace", []⟩ := by
  rw [M_keeps_eq, if_neg (by rw [h]; decide), if_pos hn]
theorem keeps_ok {ls : List (List Int)} {vs : List (Int × Int)} {n : Nat} (h : okRule ls = true) (hn : n + ls.length ≤ vs.length) (hk : kpOk ls vs n = true) : M_keeps [.fz (LD ls), .fz (VD vs), I n] = .ok (.fz (.bl (kept ls vs n))) := by
  have := (okRule_iff.mp h).1
  rw [M_keeps_eq, if_neg (by rw [h]; decide), if_neg (by omega), Int.toNat_natCast, if_pos hk]
theorem cutL_mid {α : Type} (xs : List α) (a b : Nat) : cutL xs (some (a : Int)) (some (b : Int)) = (xs.drop a).take (b - a) := by
  unfold cutL
  rw [HT.sIx_nat, HT.sIx_nat]
  by_cases h : a ≤ xs.length
  · rw [Nat.min_eq_left h]
    by_cases h2 : b ≤ xs.length
    · rw [Nat.min_eq_left h2]
    · rw [Nat.min_eq_right (by omega), List.take_of_length_le (by rw [List.length_drop]; omega), List.take_of_length_le (by rw [List.length_drop]; omega)]
  · rw [Nat.min_eq_right (show xs.length ≤ a by omega), List.drop_length, List.drop_of_length_le (by omega)]
    simp
theorem cutL_map {α β : Type} (f : α → β) (xs : List α) (lo hi : Option Int) : cutL (xs.map f) lo hi = (cutL xs lo hi).map f := by
  unfold cutL
  simp only [List.length_map, List.map_drop, List.map_take]
theorem allFz_map {α : Type} (f : α → D) (xs : List α) : allFz (xs.map fun x => .fz (f x)) = true := by induction xs with
  | nil => rfl
  | cons x xs ih => exact ih
/-- a slice of a frozen list of things -/
theorem sl_D {α : Type} {f : FE} {l h : FP} {r : Env} {xs : List α} {k : α → D} {lo hi : Option Int} (h1 : f r = .ok (.nw (.fz (.lst (xs.map k))))) (h2 : l r = .ok lo) (h3 : h r = .ok hi) (hz : xs.length ≤ 100000) : eSl f l h r = .ok (.nw (.ls ((cutL xs lo hi).map fun x => .fz (k x)))) := by
  have hl : (cutL xs lo hi).length ≤ 100000 := Nat.le_trans (cutL_length ..) hz
  have e : items (.fz (.lst (xs.map k))) = some (xs.map fun x => .fz (k x)) := by simp
  have h1' : (R.nw (O.fz (.lst (xs.map k)))).a = .fz (.lst (xs.map k)) := rfl
  simp only [eSl, h1, h2, h3, res_ok, h1', e, cutL_map]
  exact lsR_ev (allFz_map k _) (by simpa using hl)
theorem er_lsD {α : Type} (k : α → D) (xs : List α) : er (.ls (xs.map fun x => .fz (k x))) = .lst (xs.map k) := by
  rw [er_ls, ers_eq, List.map_map]; rfl
abbrev oV (vs : List (Int × Int)) : List O := vs.map fun p => .fz (fD p)
def IsV (o : O) (vs : List (Int × Int)) : Prop := o = .ls (oV vs) ∨ o = .fz (VD vs)
def oVs : List O → Option (List (Int × Int))
  | [] => some []
  | .fz d :: r => (dFr d).bind fun p => (oVs r).map (p :: ·)
  | _ :: _ => none
def asV : O → Option (List (Int × Int))
  | .fz d => dVs d
  | .ls os => oVs os
  | .tp _ => none
theorem oVs_eq : ∀ {os : List O} {vs : List (Int × Int)}, oVs os = some vs → os = oV vs
  | [], vs, h => by cases h; rfl
  | .ls _ :: _, _, h => by cases h
  | .tp _ :: _, _, h => by cases h
  | .fz d :: r, vs, h => by
    cases e : dFr d with
    | none => simp [oVs, e] at h
    | some p =>
      cases e2 : oVs r with
      | none => simp [oVs, e, e2] at h
      | some ws =>
        have h' : p :: ws = vs := by simpa [oVs, e, e2] using h
        rw [← h', dFr_eq e, oVs_eq e2]; rfl
theorem asV_is {o : O} {vs : List (Int × Int)} (h : asV o = some vs) : IsV o vs := by
  cases o with
  | fz d => right; rw [dVs_eq (show dVs d = some vs from h)]
  | ls os => left; rw [oVs_eq (show oVs os = some vs from h)]
  | tp os => cases h
@[simp] theorem asV_VD (vs : List (Int × Int)) : asV (.fz (VD vs)) = some vs := dVs_VD vs
@[simp] theorem asV_ls (vs : List (Int × Int)) : asV (.ls (oV vs)) = some vs := by
  have h : ∀ vs : List (Int × Int), oVs (oV vs) = some vs := fun vs => by
    induction vs with
    | nil => rfl
    | cons x xs ih => simp [oVs, dFr, ih]
  exact h vs
theorem IsV.as {o : O} {vs : List (Int × Int)} (h : IsV o vs) : asV o = some vs := by
  rcases h with rfl | rfl
  · exact asV_ls vs
  · exact asV_VD vs
theorem IsV.items {o : O} {vs : List (Int × Int)} (h : IsV o vs) : items o = some (oV vs) := by
  rcases h with rfl | rfl
  · rfl
  · exact items_VD vs
theorem ix_V {i j : Nat} {k : Int} {w : Bool} {g : FE} {r : Env} {o : O} {vs : List (Int × Int)} (h : r[i]? = some (.vl w o)) (hx : IsV o vs) (h2 : g r = .ok (.nw (I k))) (hk : k = (j : Int)) (hj : j < vs.length) : eIx (eVar i) g r = .ok (.nw (.fz (fD vs[j]))) := by
  have hd : (oV vs)[j]? = some (.fz (fD vs[j])) := by simp [oV, hj]
  rcases hx with rfl | rfl
  · have e : ixO (.ls (oV vs)) k = some (.fz (fD vs[j])) := atI_ok (by omega) (by rw [show k.toNat = j by omega]; exact hd)
    cases w with
    | true => rw [ix_vw (var_of h) h2 e]; rfl
    | false => rw [ix_bw (var_of h) h2 e]; rfl
  · exact ix_VD (var_of h) h2 hk hj
theorem len_V {i : Nat} {w : Bool} {r : Env} {o : O} {vs : List (Int × Int)} (h : r[i]? = some (.vl w o)) (hx : IsV o vs) : eB gLen (aCons (eVar i) aNil) r = .ok (.nw (I vs.length)) := by
  rw [b1 (var_of h), see_a]
  have e : lenO o = some vs.length := by
    rcases hx with rfl | rfl
    · show (DL.items (.ls (oV vs))).map List.length = _
      simp
    · show (DL.items (.fz (VD vs))).map List.length = _
      rw [items_VD]; simp
  simp only [gLen, e]; rfl
theorem sl_V {f : FE} {l h : FP} {r : Env} {x : R} {vs : List (Int × Int)} {lo hi : Option Int} (h1 : f r = .ok x) (hx : IsV x.a vs) (h2 : l r = .ok lo) (h3 : h r = .ok hi) (hz : vs.length ≤ 100000) : eSl f l h r = .ok (.nw (.ls (oV (cutL vs lo hi)))) := by
  have hl : (cutL vs lo hi).length ≤ 100000 := Nat.le_trans (cutL_length ..) hz
  simp only [eSl, h1, h2, h3, res_ok, hx.items]
  rw [cutL_map]
  exact lsR_ev (allFz_oV _) (by simpa using hl)
theorem app_V {i : Nat} {r : Env} {vs : List (Int × Int)} {f : FE} {p : Int × Int} (h : r[i]? = some (.vl true (.ls (oV vs)))) (h2 : f r = .ok (.nw (.fz (fD p)))) (hl : vs.length ≤ 100000) : sApp i f r = .nx (r.set i (.vl true (.ls (oV (vs ++ [p]))))) := by
  rw [app_ls h (allFz_oV vs) h2 rfl (by simpa using hl)]
  simp [oV]
theorem cutL_tail {α : Type} (xs : List α) (a : Nat) : cutL xs (some (a : Int)) none = xs.drop a := by
  have := cutL_mid xs a xs.length
  unfold cutL at this ⊢
  rw [HT.sIx_nat, HT.sIx_nat, Nat.min_self] at this
  rw [HT.sIx_nat]
  rw [show (xs.drop a).take (xs.length - a) = xs.drop a from List.take_of_length_le (by rw [List.length_drop]; omega)] at this
  exact this
def M__law_cut : List O → Res O
  | [o] => match asIL o with
    | some xs => .ok (nO (trim xs))
    | none => .bad
  | _ => .bad
theorem cut_ok {o : O} {xs : List Int} (h : asIL o = some xs) : M__law_cut [o] = .ok (nO (trim xs)) := by simp [M__law_cut, h]
def prcOk (xs ys : List Int) : Bool := (decide (xs.length ≤ 4000) && decide (ys.length ≤ 4000)) && (smL xs && smL ys)
def M__law_product : List O → Res O
  | [o, p] => match asIL o, asIL p with
    | some xs, some ys => if prcOk xs ys then .ok (nO (pmul xs ys)) else .bad
    | _, _ => .bad
  | _ => .bad
theorem prcOk_iff {xs ys : List Int} (h : prcOk xs ys = true) : (xs.length ≤ 4000 ∧ ys.length ≤ 4000) ∧ smL xs = true ∧ smL ys = true := by
  unfold prcOk at h
  simp only [Bool.and_eq_true, decide_eq_true_eq] at h
  exact h
theorem prcOk_of {xs ys : List Int} (lx : xs.length ≤ 4000) (ly : ys.length ≤ 4000) (sx : smL xs = true) (sy : smL ys = true) : prcOk xs ys = true := by
  unfold prcOk
  simp only [Bool.and_eq_true, decide_eq_true_eq]
  exact ⟨⟨lx, ly⟩, sx, sy⟩
theorem prc_ok {o p : O} {xs ys : List Int} {a b : Nat} (h : asIL o = some xs) (h2 : asIL p = some ys) (lx : xs.length ≤ 4000) (ly : ys.length ≤ 4000) (ba : BL a xs) (bb : BL b ys) (h3 : a ≤ 300000) (h4 : b ≤ 300000) : M__law_product [o, p] = .ok (nO (pmul xs ys)) := by
  have := prcOk_of lx ly (sm_lt 300000 (by omega) (by omega) (ba.up h3)) (sm_lt 300000 (by omega) (by omega) (bb.up h4))
  simp [M__law_product, h, h2, this]
def M__law_whole : List O → Res O
  | [.fz (.int _)] => .ok (.fz (.bl true))
  | _ => .bad
def M__law_value : List O → Res O
  | [o, .fz (.int n)] => match asIL o with
    | some xs => if valOk xs n then .ok (I (pev n xs)) else .bad
    | none => .bad
  | _ => .bad
theorem lvalue_ok {o : O} {xs : List Int} {n : Int} (h : asIL o = some xs) (hv : valOk xs n = true) : M__law_value [o, I n] = .ok (I (pev n xs)) := by simp [M__law_value, h, hv]
def M__law_divisor : List O → Res O
  | [.fz (.int a), .fz (.int b)] => .ok (.fz (.int (gcdI a b)))
  | _ => .bad
def M__law_lowest : List O → Res O
  | [.fz (.int a), .fz (.int b)] => if b ≠ 0 ∧ small9 b = true then .ok (.fz (fD (rtop a b, rbot a b))) else .bad
  | _ => .bad
theorem lowest_ok {a b : Int} (h : b ≠ 0) (h2 : b.natAbs < 2 ^ 8999) : M__law_lowest [I a, I b] = .ok (.fz (fD (rtop a b, rbot a b))) := if_pos ⟨h, small9_lt 8999 (by omega) (by omega) h2⟩
theorem small9_sgcd {a b : Int} (h : b ≠ 0) (h2 : small9 b = true) : small9 (sgcd a b) = true := by
  have h3 : b.natAbs < 2 ^ 9000 := lt_of_log2 (of_decide_eq_true h2)
  exact small9_lt 9000 (by omega) (by omega) (Nat.lt_of_le_of_lt (sgcd_le h) h3)

def wkOk (ls : List (List Int)) (vs : List (Int × Int)) (n : Int) : Bool := decide (0 ≤ n) && decide (n.toNat + ls.length ≤ vs.length) && (decide (n < 100000) && kpOk ls vs n.toNat)
theorem wkOk_iff {ls : List (List Int)} {vs : List (Int × Int)} {n : Int} (h : wkOk ls vs n = true) : 0 ≤ n ∧ n.toNat + ls.length ≤ vs.length ∧ n < 100000 ∧ kpOk ls vs n.toNat = true := by
  unfold wkOk at h
  simp only [Bool.and_eq_true, decide_eq_true_eq] at h
  exact ⟨h.1.1, h.1.2, h.2.1, h.2.2⟩
theorem wkOk_of {ls : List (List Int)} {vs : List (Int × Int)} {n : Nat} (h : n + ls.length ≤ vs.length) (h2 : n < 100000) (hk : kpOk ls vs n = true) : wkOk ls vs n = true := by
  unfold wkOk
  rw [Int.toNat_natCast, decide_eq_true (show (0 : Int) ≤ n by omega), decide_eq_true h, decide_eq_true (show (n : Int) < 100000 by omega), hk]; rfl
def M__law_weighed : List O → Res O
  | [.fz d, p, .fz (.int n)] => match dLL d, asV p with
    | some ls, some vs => if wkOk ls vs n then .ok (.fz (fD (wgh (ls.map (pev n)) (vAt ls vs n.toNat) (0, 1)))) else .bad
    | _, _ => .bad
  | _ => .bad
theorem lweighed_ok2 {ls : List (List Int)} {vs : List (Int × Int)} {p : O} {n : Nat} (hp : IsV p vs) (h : wkOk ls vs n = true) : M__law_weighed [.fz (LD ls), p, I n] = .ok (.fz (fD (wgh (ls.map (pev (n : Int))) (vAt ls vs n) (0, 1)))) := by
  show (match dLL (LD ls), asV p with
    | some ls, some vs => if wkOk ls vs n then Res.ok (O.fz (fD (wgh (ls.map (pev n)) (vAt ls vs (n : Int).toNat) (0, 1)))) else .bad
    | _, _ => .bad) = _
  rw [dLL_LD, hp.as]
  simp only [h, if_true, Int.toNat_natCast]
theorem lweighed_ok {ls : List (List Int)} {vs : List (Int × Int)} {n : Nat} (h : wkOk ls vs n = true) : M__law_weighed [.fz (LD ls), .fz (VD vs), I n] = .ok (.fz (fD (wgh (ls.map (pev (n : Int))) (vAt ls vs n) (0, 1)))) := lweighed_ok2 (.inr rfl) h
def B_poly_value : FS := (sSeq (sSet 2 false (eC (.int 0))) (sSeq (sFor (iRevD (eVar 0)) (gN 3) (sSet 2 false (eOp gAddA (eOp gMulA (eVar 2) (eVar 1)) (eVar 3)))) (sRet (eVar 2))))
def B_shifted : FS := (sSeq (sSet 2 true (eB gList (aCons (eVar 0) aNil))) (sSeq (sSet 3 false (eB gLen (aCons (eVar 2) aNil))) (sSeq (sFor (iRng rng1 (aCons (eOp gSub (eVar 3) (eC (.int 1))) aNil)) (gN 4) (sFor (iRng rng3 (aCons (eOp gSub (eVar 3) (eC (.int 2))) (aCons (eOp gSub (eVar 4) (eC (.int 1))) (aCons (eUn gNeg (eC (.int 1))) aNil)))) (gN 5) (sPut 2 (eOp gAddA (eIx (eVar 2) (eVar 5)) (eOp gMulA (eVar 1) (eIx (eVar 2) (eOp gAddA (eVar 5) (eC (.int 1)))))) (eVar 5)))) (sRetV 2))))
def B_divisor : FS := (sSeq (sSet 0 false (eB gAbs (aCons (eVar 0) aNil))) (sSeq (sSet 1 false (eB gAbs (aCons (eVar 1) aNil))) (sSeq (sWh (fun r => slotN 1 r + 1) (tOf (eOp gGt (eVar 1) (eC (.int 0)))) (sSeq (sSet 2 false (eOp gMod (eVar 0) (eVar 1))) (sSeq (sSet 0 false (eVar 1)) (sSet 1 false (eVar 2))))) (sRet (eVar 0)))))
def B_one_sign : FS := (sSeq (sIf (tOrD (tOf (eOp gEq (eVar 0) (eLst aNil))) (tOf (eOp gEq (eIx (eVar 0) (eC (.int 0))) (eC (.int 0))))) (sRet (eC (.bl false))) sNil) (sRet (eOr (eOp gGe (eB gMinL (aCons (eVar 0) aNil)) (eC (.int 0))) (eOp gLe (eB gMaxL (aCons (eVar 0) aNil)) (eC (.int 0))))))
def B_look_at_rule : FS := (sSeq (sIf (tOrD (tOf (eOp gEq (eVar 0) (eLst aNil))) (tOf (eOp gEq (eIx (eVar 0) (eUn gNeg (eC (.int 1)))) (eLst aNil)))) (sRaise "NoRule") sNil) (sFor (iLst (eVar 0)) (gN 1) (sIf (tAndD (tOf (eOp gNe (eVar 1) (eLst aNil))) (tOf (eOp gEq (eIx (eVar 1) (eUn gNeg (eC (.int 1)))) (eC (.int 0))))) (sRaise "NoRule") sNil)))
def B_weighed : FS := (sSeq (sSet 2 false (eC (.int 0))) (sSeq (sSet 3 false (eC (.int 1))) (sSeq (sFor (iZipD (eVar 0) (eVar 1)) (gT [(gN 4), (gN 5)]) (sSeq (sSet 2 false (eOp gAddA (eOp gMulA (eVar 2) (eIx (eVar 5) (eC (.int 1)))) (eOp gMulA (eOp gMulA (eVar 4) (eIx (eVar 5) (eC (.int 0)))) (eVar 3)))) (sSet 3 false (eOp gMulA (eVar 3) (eIx (eVar 5) (eC (.int 1))))))) (sRet (eTup (aCons (eVar 2) (aCons (eVar 3) aNil)))))))
def B__law_cell_at : FS := (sSeq (sIf (tOf (eOp gLt (eVar 1) (eB gLen (aCons (eVar 0) aNil)))) (sRet (eIx (eVar 0) (eVar 1))) sNil) (sRet (eC (.int 0))))
def B__law_number : FS := (sSeq (sIf (tOf (eOp gEq (eOp gMod (eVar 0) (eC (.int 3))) (eC (.int 0)))) (sRet (eOp gAddA (eOp gSub (eOp gMod (eOp gDiv (eVar 0) (eC (.int 3))) (eOp gSub (eOp gMulA (eC (.int 2)) (eVar 1)) (eC (.int 1)))) (eVar 1)) (eC (.int 1)))) sNil) (sSeq (sIf (tOf (eOp gEq (eOp gMod (eVar 0) (eC (.int 3))) (eC (.int 1)))) (sRet (eOp gSub (eOp gMod (eOp gDiv (eVar 0) (eC (.int 3))) (eC (.int 2001))) (eC (.int 1000)))) sNil) (sRet (eOp gSub (eOp gMod (eOp gDiv (eVar 0) (eC (.int 3))) (eC (.int 5))) (eC (.int 2))))))
def B__law_cut : FS := (sSeq (sSet 1 true (eB gList (aCons (eVar 0) aNil))) (sSeq (sWh (fun r => lenS 1 r + 1) (tAndD (tOf (eOp gGt (eB gLen (aCons (eVar 1) aNil)) (eC (.int 0)))) (tOf (eOp gEq (eIx (eVar 1) (eUn gNeg (eC (.int 1)))) (eC (.int 0))))) (sPop 1)) (sRetV 1)))
def B__law_value : FS := (sSeq (sSet 2 false (eC (.int 0))) (sSeq (sFor (iRevD (eVar 0)) (gN 3) (sSet 2 false (eOp gAddA (eOp gMulA (eVar 2) (eVar 1)) (eVar 3)))) (sRet (eVar 2))))
def B__law_whole : FS := (sRet (eAnd (eIsi .int (eVar 0)) (eNot (eIsi .bl (eVar 0)))))
def B__law_divisor : FS := (sSeq (sSet 0 false (eB gAbs (aCons (eVar 0) aNil))) (sSeq (sSet 1 false (eB gAbs (aCons (eVar 1) aNil))) (sSeq (sWh (fun r => slotN 0 r + 1) (tOf (eOp gNe (eVar 0) (eC (.int 0)))) (sSeq (sSet 2 false (eOp gMod (eVar 1) (eVar 0))) (sSeq (sSet 1 false (eVar 0)) (sSet 0 false (eVar 2))))) (sRet (eVar 1)))))
def B__law_need : FS := (sRet (eOp gAddA (eOp gSub (eB gLen (aCons (eVar 0) aNil)) (eC (.int 1))) (eMaxD 0 (eLcD (iLst (eVar 1)) (gN 2) [2] tYesD (eOp gAddA (eVar 2) (eC (.int 1)))))))
abbrev M__law_need : List O → Res O := runF 3 B__law_need
def B_ratio : FS := (sSeq (sIf (tOf (eOp gEq (eVar 1) (eC (.int 0)))) (sRaise "NoNumber") sNil) (sSeq (sSet 2 false (eCall M_divisor (aCons (eVar 0) (aCons (eVar 1) aNil)))) (sSeq (sIf (tOf (eOp gLt (eVar 1) (eC (.int 0)))) (sSet 2 false (eUn gNeg (eVar 2))) sNil) (sRet (eTup (aCons (eOp gDiv (eVar 0) (eVar 2)) (aCons (eOp gDiv (eVar 1) (eVar 2)) aNil)))))))
def B_reach : FS := (sSeq (sIf (tOf (eOp gEq (eVar 0) (eLst aNil))) (sRaise "NoNumber") sNil) (sSeq (sSet 1 false (eB gList (aCons (eVar 0) aNil))) (sSeq (sFor (iRng rng1 (aCons (eOp gAddA (eC (.int 60)) (eC (.int 1))) aNil)) (gN 2) (sSeq (sIf (tOf (eCall M_one_sign (aCons (eVar 1) aNil))) (sRet (eVar 2)) sNil) (sSet 1 false (eCall M_shifted (aCons (eVar 1) (aCons (eC (.int 1)) aNil)))))) (sRaise "TooGreat"))))
def B_order_of : FS := (sSeq (sDrop (eCallZ M_look_at_rule (aCons (eVar 0) aNil))) (sRet (eOp gSub (eB gLen (aCons (eVar 0) aNil)) (eC (.int 1)))))
def B__law_product : FS := (sSeq (sSet 2 true (eOp gMulA (eLst (aCons (eC (.int 0)) aNil)) (eOp gAddA (eB gLen (aCons (eVar 0) aNil)) (eB gLen (aCons (eVar 1) aNil))))) (sSeq (sFor (iRng rng1 (aCons (eB gLen (aCons (eVar 0) aNil)) aNil)) (gN 3) (sFor (iRng rng1 (aCons (eB gLen (aCons (eVar 1) aNil)) aNil)) (gN 4) (sPut 2 (eOp gAddA (eIx (eVar 2) (eOp gAddA (eVar 3) (eVar 4))) (eOp gMulA (eIx (eVar 0) (eVar 3)) (eIx (eVar 1) (eVar 4)))) (eOp gAddA (eVar 3) (eVar 4))))) (sRet (eCall M__law_cut (aCons (eVar 2) aNil)))))
def B__law_lowest : FS := (sSeq (sSet 2 false (eCall M__law_divisor (aCons (eVar 0) (aCons (eVar 1) aNil)))) (sSeq (sIf (tOf (eOp gLt (eVar 1) (eC (.int 0)))) (sSet 2 false (eUn gNeg (eVar 2))) sNil) (sRet (eTup (aCons (eOp gDiv (eVar 0) (eVar 2)) (aCons (eOp gDiv (eVar 1) (eVar 2)) aNil))))))
def B__law_weighed : FS := (sSeq (sSet 3 false (eC (.int 0))) (sSeq (sSet 4 false (eC (.int 1))) (sSeq (sFor (iRng rng1 (aCons (eB gLen (aCons (eVar 0) aNil)) aNil)) (gN 5) (sSeq (sSet 3 false (eOp gAddA (eOp gMulA (eVar 3) (eIx (eIx (eVar 1) (eOp gAddA (eVar 2) (eVar 5))) (eC (.int 1)))) (eOp gMulA (eOp gMulA (eCall M__law_value (aCons (eIx (eVar 0) (eVar 5)) (aCons (eVar 2) aNil))) (eIx (eIx (eVar 1) (eOp gAddA (eVar 2) (eVar 5))) (eC (.int 0)))) (eVar 4)))) (sSet 4 false (eOp gMulA (eVar 4) (eIx (eIx (eVar 1) (eOp gAddA (eVar 2) (eVar 5))) (eC (.int 1))))))) (sRet (eTup (aCons (eVar 3) (aCons (eVar 4) aNil)))))))
def B__law_is_fraction : FS := (sSeq (sIf (tOrD (tNotD (tOf (eIsi .tup (eVar 0)))) (tOrD (tOf (eOp gNe (eB gLen (aCons (eVar 0) aNil)) (eC (.int 2)))) (tOrD (tNotD (tOf (eCall M__law_whole (aCons (eIx (eVar 0) (eC (.int 0))) aNil)))) (tNotD (tOf (eCall M__law_whole (aCons (eIx (eVar 0) (eC (.int 1))) aNil))))))) (sRet (eC (.bl false))) sNil) (sRet (eAnd (eOp gGt (eIx (eVar 0) (eC (.int 1))) (eC (.int 0))) (eOp gEq (eCall M__law_divisor (aCons (eIx (eVar 0) (eC (.int 0))) (aCons (eIx (eVar 0) (eC (.int 1))) aNil))) (eC (.int 1))))))
abbrev M__law_is_fraction : List O → Res O := runF 1 B__law_is_fraction
def B__law_last : FS := (sSeq (sIf (tOf (eOp gEq (eOp gMod (eVar 0) (eC (.int 3))) (eC (.int 0)))) (sRet (eLst (aCons (eC (.int 1)) aNil))) sNil) (sSeq (sSet 1 true (eCall M__law_cut (aCons (eLst (aCons (eOp gAddA (eC (.int 1)) (eOp gMod (eOp gDiv (eVar 0) (eC (.int 3))) (eC (.int 9)))) (aCons (eOp gMod (eOp gDiv (eVar 0) (eC (.int 27))) (eC (.int 4))) (aCons (eOp gMod (eOp gDiv (eVar 0) (eC (.int 108))) (eC (.int 3))) aNil)))) aNil))) (sSeq (sIf (tOf (eOp gEq (eOp gMod (eOp gDiv (eVar 0) (eC (.int 324))) (eC (.int 8))) (eC (.int 7)))) (sPut 1 (eOp gAddA (eC (.int 1)) (eOp gMod (eOp gDiv (eVar 0) (eC (.int 2592))) (eOp gPow (eC (.int 10)) (eC (.int 9))))) (eC (.int 0))) sNil) (sSeq (sIf (tOf (eOp gEq (eOp gMod (eVar 0) (eC (.int 3))) (eC (.int 2)))) (sSeq (sFrz 1) (sSet 1 true (eLcD (iLst (eVar 1)) (gN 2) [2] tYesD (eUn gNeg (eVar 2))))) sNil) (sRetV 1)))))
abbrev M__law_last : List O → Res O := runF 3 B__law_last
def B__law_roots : FS := (sSeq (sSet 1 false (eCall M__law_cell_at (aCons (eVar 0) (aCons (eC (.int 1)) aNil)))) (sSeq (sSet 2 false (eC (.int 6))) (sSeq (sIf (tOf (eOp gEq (eOp gMod (eOp gDiv (eVar 1) (eC (.int 4))) (eC (.int 3))) (eC (.int 2)))) (sSet 2 false (eC (.int 60))) sNil) (sSeq (sSet 3 false (eLst (aCons (eCall M__law_cell_at (aCons (eVar 0) (aCons (eC (.int 2)) aNil))) (aCons (eOp gDiv (eCall M__law_cell_at (aCons (eVar 0) (aCons (eC (.int 2)) aNil))) (eVar 2)) (aCons (eCall M__law_cell_at (aCons (eVar 0) (aCons (eC (.int 3)) aNil))) aNil))))) (sSeq (sSet 4 true (eSl (eLcD (iLst (eVar 3)) (gN 5) [5] tYesD (eOp gMod (eVar 5) (eVar 2))) pNone (pSome (eOp gMod (eVar 1) (eC (.int 4)))))) (sSeq (sIf (tAndD (tOf (eOp gEq (eVar 2) (eC (.int 60)))) (tAndD (tOf (eOp gNe (eVar 4) (eLst aNil))) (tOf (eOp gEq (eOp gMod (eOp gDiv (eVar 1) (eC (.int 12))) (eC (.int 2))) (eC (.int 1)))))) (sPut 4 (eC (.int 59)) (eC (.int 0))) sNil) (sRetV 4)))))))
abbrev M__law_roots : List O → Res O := runF 6 B__law_roots
def B_need_of : FS := (sRet (eOp gAddA (eCallZ M_order_of (aCons (eVar 0) aNil)) (eCall M_reach (aCons (eIx (eVar 0) (eUn gNeg (eC (.int 1)))) aNil))))
abbrev M_need_of : List O → Res O := runF 1 B_need_of
def B_keeps : FS := (sSeq (sSet 3 false (eCallZ M_order_of (aCons (eVar 0) aNil))) (sSeq (sIf (tOrD (tOf (eOp gLt (eVar 2) (eC (.int 0)))) (tOf (eOp gGe (eOp gAddA (eVar 2) (eVar 3)) (eB gLen (aCons (eVar 1) aNil))))) (sRaise "NoPlace") sNil) (sSeq (sAsgT (gT [(gN 4), (gN 5)]) (eCall M_weighed (aCons (eLcD (iLst (eVar 0)) (gN 6) [6] tYesD (eCall M_poly_value (aCons (eVar 6) (aCons (eVar 2) aNil)))) (aCons (eSl (eVar 1) (pSome (eVar 2)) (pSome (eOp gAddA (eOp gAddA (eVar 2) (eVar 3)) (eC (.int 1))))) aNil)))) (sRet (eOp gEq (eVar 4) (eC (.int 0)))))))
def B_next_one : FS := (sSeq (sSet 2 false (eOp gSub (eB gLen (aCons (eVar 1) aNil)) (eCallZ M_order_of (aCons (eVar 0) aNil)))) (sSeq (sSet 3 false (eLcD (iLst (eVar 0)) (gN 6) [6] tYesD (eCall M_poly_value (aCons (eVar 6) (aCons (eVar 2) aNil))))) (sSeq (sAsgT (gT [(gN 4), (gN 5)]) (eCall M_weighed (aCons (eSl (eVar 3) pNone (pSome (eUn gNeg (eC (.int 1))))) (aCons (eSl (eVar 1) (pSome (eVar 2)) pNone) aNil)))) (sRet (eCall M_ratio (aCons (eUn gNeg (eVar 4)) (aCons (eOp gMulA (eVar 5) (eIx (eVar 3) (eUn gNeg (eC (.int 1))))) aNil)))))))
abbrev M_next_one : List O → Res O := runF 7 B_next_one
def B__law_fraction : FS := (sSeq (sSet 1 false (eOp gMod (eVar 0) (eC (.int 2147483647)))) (sSeq (sSet 1 false (eOp gMod (eOp gMulA (eOp gAddA (eOp gMulA (eVar 1) (eVar 1)) (eC (.int 11))) (eC (.int 48271))) (eC (.int 2147483629)))) (sSeq (sSet 2 false (eIx (eLst (aCons (eC (.int 1)) (aCons (eC (.int 1)) (aCons (eOp gAddA (eC (.int 1)) (eOp gMod (eOp gDiv (eVar 1) (eC (.int 4))) (eC (.int 12)))) (aCons (eOp gAddA (eC (.int 1)) (eOp gMod (eOp gDiv (eVar 1) (eC (.int 4))) (eC (.int 1000)))) aNil))))) (eOp gMod (eVar 1) (eC (.int 4))))) (sRet (eCall M__law_lowest (aCons (eCall M__law_number (aCons (eVar 0) (aCons (eOp gPow (eC (.int 10)) (eC (.int 60))) aNil))) (aCons (eVar 2) aNil)))))))
abbrev M__law_fraction : List O → Res O := runF 3 B__law_fraction
def B__law_parts : FS := (sSeq (sSet 1 false (eOp gEq (eOp gMod (eOp gDiv (eCall M__law_cell_at (aCons (eVar 0) (aCons (eC (.int 1)) aNil))) (eC (.int 4))) (eC (.int 3))) (eC (.int 2)))) (sSeq (sSet 2 true (eLst aNil)) (sSeq (sFor (iRng rng1 (aCons (eOp gMod (eCall M__law_cell_at (aCons (eVar 0) (aCons (eC (.int 0)) aNil))) (eC (.int 5))) aNil)) (gN 3) (sSeq (sSet 4 false (eOp gMod (eCall M__law_cell_at (aCons (eVar 0) (aCons (eOp gAddA (eC (.int 6)) (eOp gMulA (eC (.int 3)) (eVar 3))) aNil))) (eC (.int 2147483647)))) (sSeq (sSet 5 false (eOp gMod (eOp gMod (eOp gMulA (eOp gAddA (eOp gMulA (eVar 4) (eVar 4)) (eC (.int 5))) (eC (.int 69621))) (eC (.int 2147483629))) (eC (.int 4)))) (sSeq (sSet 6 false (eLcD (iRng rng1 (aCons (eVar 5) aNil)) (gN 7) [7] tYesD (eCall M__law_number (aCons (eCall M__law_cell_at (aCons (eVar 0) (aCons (eOp gAddA (eOp gAddA (eC (.int 6)) (eOp gMulA (eC (.int 3)) (eVar 3))) (eVar 7)) aNil))) (aCons (eOp gPow (eC (.int 10)) (eC (.int 18))) aNil))))) (sSeq (sIf (tOf (eVar 1)) (sSet 6 false (eLcD (iRng rng1 (aCons (eOp gMod (eVar 5) (eC (.int 3))) aNil)) (gN 7) [7] tYesD (eOp gSub (eOp gMod (eCall M__law_cell_at (aCons (eVar 0) (aCons (eOp gAddA (eOp gAddA (eC (.int 6)) (eOp gMulA (eC (.int 3)) (eVar 3))) (eVar 7)) aNil))) (eC (.int 3))) (eC (.int 1))))) sNil) (sApp 2 (eCall M__law_cut (aCons (eVar 6) aNil)))))))) (sSeq (sIf (tOf (eVar 1)) (sRet (eOp gAddA (eVar 2) (eLst (aCons (eLst (aCons (eC (.int 1)) aNil)) aNil)))) sNil) (sRet (eOp gAddA (eVar 2) (eLst (aCons (eCall M__law_last (aCons (eCall M__law_cell_at (aCons (eVar 0) (aCons (eC (.int 4)) aNil))) aNil)) aNil))))))))
abbrev M__law_parts : List O → Res O := runF 8 B__law_parts
def B__law_rule : FS := (sSeq (sSet 2 false (eVar 0)) (sSeq (sFor (iLst (eVar 1)) (gN 3) (sSet 2 false (eLcD (iLst (eVar 2)) (gN 4) [4] tYesD (eCall M__law_product (aCons (eVar 4) (aCons (eLst (aCons (eUn gNeg (eVar 3)) (aCons (eC (.int 1)) aNil))) aNil)))))) (sRet (eVar 2))))
abbrev M__law_rule : List O → Res O := runF 5 B__law_rule
def B__law_keeps : FS := (sSeq (sFor (iRng rng1 (aCons (eOp gAddA (eOp gSub (eB gLen (aCons (eVar 1) aNil)) (eB gLen (aCons (eVar 0) aNil))) (eC (.int 1))) aNil)) (gN 2) (sIf (tOf (eOp gNe (eIx (eCall M__law_weighed (aCons (eVar 0) (aCons (eVar 1) (aCons (eVar 2) aNil)))) (eC (.int 0))) (eC (.int 0)))) (sRet (eC (.bl false))) sNil)) (sRet (eC (.bl true))))
abbrev M__law_keeps : List O → Res O := runF 3 B__law_keeps
def B_look_at_first : FS := (sSeq (sIf (tOf (eOp gLt (eB gLen (aCons (eVar 1) aNil)) (eCallZ M_need_of (aCons (eVar 0) aNil)))) (sRaise "TooFew") sNil) (sFor (iRng rng1 (aCons (eOp gSub (eB gLen (aCons (eVar 1) aNil)) (eCallZ M_order_of (aCons (eVar 0) aNil))) aNil)) (gN 2) (sIf (tNotD (tOf (eCallZ M_keeps (aCons (eVar 0) (aCons (eVar 1) (aCons (eVar 2) aNil)))))) sDead sNil)))
abbrev M_look_at_first : List O → Res O := runF 3 B_look_at_first
def B__law_values : FS := (sSeq (sSet 4 true (eLst aNil)) (sSeq (sFor (iRng rng1 (aCons (eVar 3) aNil)) (gN 5) (sSeq (sSet 6 false (eOp gAddA (eOp gSub (eVar 5) (eB gLen (aCons (eVar 0) aNil))) (eC (.int 1)))) (sIf (tOrD (tOf (eOp gLt (eVar 6) (eC (.int 0)))) (tOf (eOp gIn (eVar 6) (eVar 1)))) (sApp 4 (eCall M__law_fraction (aCons (eIx (eOp gAddA (eVar 2) (eLst (aCons (eVar 5) aNil))) (eOp gMod (eVar 5) (eOp gAddA (eB gLen (aCons (eVar 2) aNil)) (eC (.int 1))))) aNil))) (sSeq (sAsgT (gT [(gN 7), (gN 8)]) (eCall M__law_weighed (aCons (eSl (eVar 0) pNone (pSome (eUn gNeg (eC (.int 1))))) (aCons (eVar 4) (aCons (eVar 6) aNil))))) (sApp 4 (eCall M__law_lowest (aCons (eUn gNeg (eVar 7)) (aCons (eOp gMulA (eVar 8) (eCall M__law_value (aCons (eIx (eVar 0) (eUn gNeg (eC (.int 1)))) (aCons (eVar 6) aNil)))) aNil)))))))) (sRetV 4)))
abbrev M__law_values : List O → Res O := runF 9 B__law_values
def B_carried_on : FS := (sSeq (sDrop (eCallZ M_look_at_first (aCons (eVar 0) (aCons (eVar 1) aNil)))) (sSeq (sSet 3 true (eB gList (aCons (eSl (eVar 1) pNone (pSome (eVar 2))) aNil))) (sSeq (sWh (fun r => slotN 2 r + 1) (tOf (eOp gLt (eB gLen (aCons (eVar 3) aNil)) (eVar 2))) (sApp 3 (eCall M_next_one (aCons (eVar 0) (aCons (eVar 3) aNil))))) (sRetV 3))))
abbrev M_carried_on : List O → Res O := runF 4 B_carried_on
def B__law_powers : FS := (sSeq (sSet 1 false (eOp gSub (eOp gMod (eVar 0) (eC (.int 7))) (eC (.int 3)))) (sSeq (sSet 2 false (eOp gMod (eOp gDiv (eVar 0) (eC (.int 7))) (eOp gPow (eC (.int 10)) (eC (.int 60))))) (sSeq (sSet 3 true (eLst aNil)) (sSeq (sFor (iRng rng1 (aCons (eC (.int 461)) aNil)) (gN 4) (sSeq (sApp 3 (eTup (aCons (eVar 2) (aCons (eC (.int 1)) aNil)))) (sSet 2 false (eOp gMulA (eVar 2) (eVar 1))))) (sRet (eOp gEq (eCall M_carried_on (aCons (eLst (aCons (eCall M__law_cut (aCons (eLst (aCons (eUn gNeg (eVar 1)) aNil)) aNil)) (aCons (eLst (aCons (eC (.int 1)) aNil)) aNil))) (aCons (eSl (eVar 3) pNone (pSome (eOp gAddA (eC (.int 1)) (eOp gMod (eVar 0) (eC (.int 2)))))) (aCons (eC (.int 461)) aNil)))) (eVar 3)))))))
abbrev M__law_powers : List O → Res O := runF 5 B__law_powers
def B_law : FS := (sSeq (sSet 1 false (eCall M__law_parts (aCons (eVar 0) aNil))) (sSeq (sSet 2 false (eCall M__law_roots (aCons (eVar 0) aNil))) (sSeq (sSet 3 false (eCall M__law_rule (aCons (eVar 1) (aCons (eVar 2) aNil)))) (sSeq (sSet 4 false (eCall M__law_cell_at (aCons (eVar 0) (aCons (eC (.int 5)) aNil)))) (sSeq (sSet 5 false (eCall M__law_values (aCons (eVar 1) (aCons (eVar 2) (aCons (eSl (eVar 0) (pSome (eC (.int 18))) (pSome (eC (.int 63)))) (aCons (eOp gAddA (eCallZ M__law_need (aCons (eVar 1) (aCons (eVar 2) aNil))) (eOp gMod (eVar 4) (eC (.int 4)))) aNil)))))) (sSeq (sSet 6 false (eOp gMod (eOp gDiv (eVar 4) (eC (.int 4))) (eOp gAddA (eB gLen (aCons (eVar 5) aNil)) (eC (.int 20))))) (sSeq (sSet 7 false (eLst (aCons (eLcD (iLst (eVar 3)) (gN 11) [11] tYesD (eB gList (aCons (eVar 11) aNil))) (aCons (eB gList (aCons (eVar 5) aNil)) aNil)))) (sSeq (sSet 8 true (eCall M_carried_on (aCons (eIx (eVar 7) (eC (.int 0))) (aCons (eIx (eVar 7) (eC (.int 1))) (aCons (eVar 6) aNil))))) (sSeq (sIf (tOrD (tNotD (tOf (eIsi .lst (eVar 8)))) (tOrD (tOf (eOp gNe (eB gLen (aCons (eVar 8) aNil)) (eVar 6))) (tOf (eOp gNe (eSl (eVar 8) pNone (pSome (eB gLen (aCons (eVar 5) aNil)))) (eSl (eVar 5) pNone (pSome (eVar 6))))))) (sRet (eC (.bl false))) sNil) (sSeq (sForV 8 9 (tNotD (tOf (eCallZ M__law_is_fraction (aCons (eVar 9) aNil)))) (eC (.bl false))) (sSeq (sIf (tOrD (tNotD (tOf (eCallZ M__law_keeps (aCons (eVar 3) (aCons (eVar 8) aNil))))) (tOf (eOp gNe (eVar 7) (eLst (aCons (eVar 3) (aCons (eVar 5) aNil)))))) (sRet (eC (.bl false))) sNil) (sSeq (sSet 10 false (eB gList (aCons (eVar 8) aNil))) (sSeq (sClear 8) (sSeq (sIf (tOf (eOp gNe (eCall M_carried_on (aCons (eIx (eVar 7) (eC (.int 0))) (aCons (eIx (eVar 7) (eC (.int 1))) (aCons (eVar 6) aNil)))) (eVar 10))) (sRet (eC (.bl false))) sNil) (sRet (eOr (eOp gNe (eOp gMod (eOp gDiv (eCall M__law_cell_at (aCons (eVar 0) (aCons (eC (.int 3)) aNil))) (eC (.int 60))) (eC (.int 4))) (eC (.int 1))) (eCall M__law_powers (aCons (eOp gDiv (eCall M__law_cell_at (aCons (eVar 0) (aCons (eC (.int 3)) aNil))) (eC (.int 240))) aNil))))))))))))))))))




theorem set_same {r : Env} {i : Nat} {x : S} (h : r[i]? = some x) : r.set i x = r := by
  refine List.ext_getElem? fun k => ?_
  rw [List.getElem?_set]
  by_cases e : i = k
  · subst e
    obtain ⟨h1, h2⟩ := List.getElem?_eq_some_iff.mp h
    simp [h1, h2]
  · simp [e]
/-- noughts at the end popped from a list of one's own -/
theorem pop_loop {i : Nat} : ∀ (m : Nat) (xs : List Int) (r : Env), xs.length = m → r[i]? = some (.vl true (nO xs)) → whl (tAndD (tOf (eOp gGt (eB gLen (aCons (eVar i) aNil)) (eC (.int 0)))) (tOf (eOp gEq (eIx (eVar i) (eUn gNeg (eC (.int 1)))) (eC (.int 0))))) (sPop i) (m + 1) r = .nx (r.set i (.vl true (nO (trim xs))))
  | 0, xs, r, h, hr => by
    have : xs = [] := List.length_eq_zero_iff.mp h
    subst this
    have e1 : tOf (eOp gGt (eB gLen (aCons (eVar i) aNil)) (eC (.int 0))) r = .ok false := by
      rw [tOf_ev, op_of (len_slot (i := i) hr (asIL_ls [])) (eC_ev _)]; rfl
    rw [whl_f (and_f e1), show trim [] = [] from rfl, set_same hr]
  | m + 1, xs, r, h, hr => by
    rcases List.eq_nil_or_concat xs with e | ⟨ys, y, e⟩
    · subst e; simp at h
    · rw [List.concat_eq_append] at e
      subst e
      have hl : ys.length = m := by simpa using h
      have e1 : tOf (eOp gGt (eB gLen (aCons (eVar i) aNil)) (eC (.int 0))) r = .ok true := by
        rw [tOf_ev, op_of (len_slot (i := i) hr (asIL_ls (ys ++ [y]))) (eC_ev _)]; simp
      have hx : eIx (eVar i) (eUn gNeg (eC (.int 1))) r = .ok (.nw (I y)) := by
        have := ix_lastIL (f := eVar i) (g := eUn gNeg (eC (.int 1))) (r := r) (xs := ys ++ [y]) (var_of hr) (by simp only [see_a]; exact asIL_ls _) (by simp) (by simp)
        simpa using this
      have li := (List.getElem?_eq_some_iff.mp hr).1
      by_cases h0 : y = 0
      · subst h0
        rw [whl_t (r' := r.set i (.vl true (nO ys))) (and_t e1 (by rw [tOf_ev, op_of hx (eC_ev _)]; simp)) (by simp [sPop, onOwn, hr, allFz_append, allFz_iL, allFz, iL])]
        rw [pop_loop m ys _ hl (by simp [li]), trim_snoc0, List.set_set]
      · rw [whl_f (and_t e1 (by rw [tOf_ev, op_of hx (eC_ev _)]; simp [h0])), trim_snoc _ h0, set_same hr]







theorem imp_poly_value : ∀ os : List O, os.length = 2 → M_poly_value os = .bad ∨ M_poly_value os = runF 4 B_poly_value os := by
  intro os h
  unfold M_poly_value
  split
  · rename_i o n
    split
    · rename_i xs hx
      by_cases hv : valOk xs n = true
      · right
        rw [if_pos hv]
        symm
        obtain ⟨hl, hb, hn⟩ := valOk_iff hv
        obtain ⟨r', h1, a, h2⟩ := forL_inv (fg := gN 3) (F := (sSet 2 false (eOp gAddA (eOp gMulA (eVar 2) (eVar 1)) (eVar 3)))) (its := (xs.map intR).reverse) (r := [.vl false o, .vl false (I n), VI 0, .un])
          (fun k r => ∃ z, r = [.vl false o, .vl false (I n), VI (pev n (xs.drop (xs.length - k))), z]) ⟨.un, by simp [pev]⟩ (fun k x r hk ⟨z, hr⟩ => by
            subst hr
            have hkl : k < xs.length := by
              have := (List.getElem?_eq_some_iff.mp hk).1
              simpa using this
            have hx2 : x = intR xs[xs.length - 1 - k] := by
              rw [List.getElem?_reverse (by simpa using hkl)] at hk
              simp at hk
              obtain ⟨v, hv, e⟩ := hk
              rw [List.getElem?_eq_getElem (by omega)] at hv
              rw [← e]
              congr 1
              exact (Option.some.inj hv).symm
            subst hx2
            have hd : xs.drop (xs.length - (k + 1)) = xs[xs.length - 1 - k] :: xs.drop (xs.length - k) := by
              rw [show xs.length - (k + 1) = xs.length - 1 - k by omega, List.drop_eq_getElem_cons (by omega)]
              congr 2
              omega
            have hm : gMulA (I (pev n (xs.drop (xs.length - k)))) (I n) = .ok (.nw (I (pev n (xs.drop (xs.length - k)) * n))) := by
              have hb2 : BL 100000 (xs.drop (xs.length - k)) := fun y hy => hb y (List.mem_of_mem_drop hy)
              have hp := pev_lt hn hb2
              have hk2 : (500 + 1) * (xs.drop (xs.length - k)).length ≤ 501 * 1000 := Nat.mul_le_mul_left _ (by rw [List.length_drop]; omega)
              exact gMul_lt 601000 500 (lt_up hp (by omega)) hn (by omega) (by omega) (by omega)
            refine ⟨[.vl false o, .vl false (I n), VI (pev n (xs.drop (xs.length - k))), VI xs[xs.length - 1 - k]], [.vl false o, .vl false (I n), VI (pev n (xs.drop (xs.length - (k + 1)))), VI xs[xs.length - 1 - k]], by simp [intR], ?_, VI xs[xs.length - 1 - k], rfl⟩
            refine set_go (x := .nw (I (pev n (xs.drop (xs.length - (k + 1)))))) ?_ rfl (by simp)
            rw [hd, pev]
            simp [eVar, hm])
        subst h2
        simp only [List.length_reverse, List.length_map, Nat.sub_self, List.drop_zero] at h1
        unfold B_poly_value
        exact run_ret (seq_go (r' := [.vl false o, .vl false (I n), VI 0, .un]) (set_go (x := .nw (I 0)) (by simp) rfl (by simp [startE])) (seq_go (for_go (iRev_bw rfl hx) h1) (ret_go (by simp [eVar]))))
      · left; rw [if_neg hv]
    · exact .inl rfl
  · exact .inl rfl
abbrev shIn : FS := (sPut 2 (eOp gAddA (eIx (eVar 2) (eVar 5)) (eOp gMulA (eVar 1) (eIx (eVar 2) (eOp gAddA (eVar 5) (eC (.int 1)))))) (eVar 5))
abbrev shOut : FS := (sFor (iRng rng3 (aCons (eOp gSub (eVar 3) (eC (.int 2))) (aCons (eOp gSub (eVar 4) (eC (.int 1))) (aCons (eUn gNeg (eC (.int 1))) aNil)))) (gN 5) shIn)
theorem sh_in {o : O} {b : Int} {f : List Int} {k : Nat} (hk : k + 1 < f.length) (hs : BL 910000 (sdiv b (f.drop (k + 1)))) (hb : b.natAbs < 2 ^ 80) (n l : S) :
    shIn [.vl false o, .vl false (I b), .vl true (nO (f.take (k + 1) ++ sdiv b (f.drop (k + 1)))), n, l, VI k] = .nx [.vl false o, .vl false (I b), .vl true (nO (f.take k ++ sdiv b (f.drop k))), n, l, VI k] := by
  obtain ⟨c, h1, h2, h3, h4⟩ := sdiv_set (b := b) hk
  have e0 : eIx (eVar 2) (eVar 5) [.vl false o, .vl false (I b), .vl true (nO (f.take (k + 1) ++ sdiv b (f.drop (k + 1)))), n, l, VI k] = .ok (.nw (I f[k])) :=
    ix_at (k := k) (var_of rfl) (by simp only [see_a]; exact asIL_ls _) (by simp [eVar]) (atI_ok (by omega) (by simp only [Int.toNat_natCast, iL, List.getElem?_map, h3]; rfl))
  have e1 : eIx (eVar 2) (eOp gAddA (eVar 5) (eC (.int 1))) [.vl false o, .vl false (I b), .vl true (nO (f.take (k + 1) ++ sdiv b (f.drop (k + 1)))), n, l, VI k] = .ok (.nw (I c)) :=
    ix_at (k := (k : Int) + 1) (var_of rfl) (by simp only [see_a]; exact asIL_ls _) (by simp [eVar]) (atI_ok (by omega) (by rw [show ((k : Int) + 1).toNat = k + 1 by omega]; simp only [iL, List.getElem?_map, h1]; rfl))
  have em : gMulA (I b) (I c) = .ok (.nw (I (b * c))) := gMul_lt 80 910000 hb (hs c h2) (by omega) (by omega) (by omega)
  have hl : k < (f.take (k + 1) ++ sdiv b (f.drop (k + 1))).length := by
    rw [List.length_append, List.length_take]; omega
  unfold shIn
  rw [put_IL (v := f[k] + b * c) (k := k) (j := k) rfl ?_ (by simp [eVar]) rfl hl, h4]
  · rfl
  · rw [eOp_ev, e0, eOp_ev, var_of (i := 1) (w := false) (o := I b) rfl, e1]
    simp [em]
theorem sh_out {o : O} {b : Int} {f : List Int} {low m : Nat} (hlow : low + 1 < f.length) (hf : BL m f) (hm : m + 81 * f.length ≤ 910000) (hlen : f.length ≤ 100) (hb : b.natAbs < 2 ^ 80) (a : S) :
    ∃ a', shOut [.vl false o, .vl false (I b), .vl true (nO f), VI f.length, VI low, a] = .nx [.vl false o, .vl false (I b), .vl true (nO (f.take low ++ sdiv b (f.drop low))), VI f.length, VI low, a'] := by
  obtain ⟨r', h1, a', h2⟩ := for_gen (fg := gN 5) (F := shIn) (g := fun (t : Nat) => intR ((f.length : Int) - 2 + (t : Nat) * (-1))) (n := f.length - 1 - low) (r := [.vl false o, .vl false (I b), .vl true (nO f), VI f.length, VI low, a])
    (fun t r => ∃ a, r = [.vl false o, .vl false (I b), .vl true (nO (f.take (f.length - 1 - t) ++ sdiv b (f.drop (f.length - 1 - t)))), VI f.length, VI low, a]) ⟨a, by
      have e : sdiv b (f.drop (f.length - 1)) = f.drop (f.length - 1) := by
        rw [List.drop_eq_getElem_cons (by omega), List.drop_eq_nil_of_le (by omega)]
        rfl
      rw [Nat.sub_zero, e, List.take_append_drop]⟩ (fun t r ht ⟨a, hr⟩ => by
      subst hr
      have hk : f.length - 1 - t = f.length - 2 - t + 1 := by omega
      have hs : BL 910000 (sdiv b (f.drop (f.length - 2 - t + 1))) := by
        have := sdiv_lt hb (xs := f.drop (f.length - 2 - t + 1)) (m := m) fun y hy => hf y (List.mem_of_mem_drop hy)
        exact this.up (by
          have : (80 + 1) * (f.drop (f.length - 2 - t + 1)).length ≤ 81 * f.length := Nat.mul_le_mul_left _ (by rw [List.length_drop]; omega)
          omega)
      refine ⟨[.vl false o, .vl false (I b), .vl true (nO (f.take (f.length - 1 - t) ++ sdiv b (f.drop (f.length - 1 - t)))), VI f.length, VI low, VI (f.length - 2 - t : Nat)], [.vl false o, .vl false (I b), .vl true (nO (f.take (f.length - 1 - (t + 1)) ++ sdiv b (f.drop (f.length - 1 - (t + 1))))), VI f.length, VI low, VI (f.length - 2 - t : Nat)], ?_, ?_, VI (f.length - 2 - t : Nat), rfl⟩
      · have : (f.length : Int) - 2 + (t : Nat) * (-1) = ((f.length - 2 - t : Nat) : Int) := by omega
        show gN 5 (intR ((f.length : Int) - 2 + (t : Nat) * (-1))) _ = _
        rw [this]
        simp [intR]
      · rw [hk, show f.length - 1 - (t + 1) = f.length - 2 - t by omega]
        exact sh_in (by omega) hs hb _ _)
  subst h2
  rw [show f.length - 1 - (f.length - 1 - low) = low by omega] at h1
  refine ⟨a', for_go ?_ h1⟩
  have e : iRng rng3 (aCons (eOp gSub (eVar 3) (eC (.int 2))) (aCons (eOp gSub (eVar 4) (eC (.int 1))) (aCons (eUn gNeg (eC (.int 1))) aNil))) [.vl false o, .vl false (I b), .vl true (nO f), VI f.length, VI low, a] = rng3 [I ((f.length : Int) - 2), I ((low : Int) - 1), I (-1)] := by simp [eVar]
  rw [e, rng3_dn (by omega) (by omega) (by omega) (by omega), show ((f.length : Int) - 2 - ((low : Int) - 1)).toNat = f.length - 1 - low by omega]
theorem imp_shifted : ∀ os : List O, os.length = 2 → M_shifted os = .bad ∨ M_shifted os = runF 6 B_shifted os := by
  intro os h
  unfold M_shifted
  split
  · rename_i o b
    split
    · rename_i xs hx
      by_cases hv : shOk xs b = true
      · right
        rw [if_pos hv]
        symm
        obtain ⟨hl, hb, hn⟩ := shOk_iff hv
        obtain ⟨r', h1, f, a, c, h2, lf, bf, hf⟩ := for_gen (fg := gN 4) (F := shOut) (g := fun (k : Nat) => intR (k : Int)) (n := ((xs.length : Int) - 1).toNat) (r := [.vl false o, .vl false (I b), .vl true (nO xs), VI xs.length, .un, .un])
          (fun low r => ∃ (f : List Int) (a c : S), r = [.vl false o, .vl false (I b), .vl true (nO f), VI xs.length, a, c] ∧ f.length = xs.length ∧ BL (100000 + 8100 * low) f ∧ pshift b xs = f.take low ++ pshift b (f.drop low)) ⟨xs, .un, .un, rfl, rfl, hb, rfl⟩ (fun low r hlo ⟨f, a, c, hr, lf, bf, hf⟩ => by
            subst hr
            have hlo2 : low + 1 < f.length := by omega
            have hq : 8100 * low ≤ 8100 * 100 := Nat.mul_le_mul_left _ (by omega)
            have hq2 : 8100 * (low + 1) ≤ 8100 * 100 := Nat.mul_le_mul_left _ (by omega)
            obtain ⟨c', hc⟩ := sh_out (o := o) hlo2 bf (by omega) (by omega) hn c
            rw [lf] at hc
            have hd : f.drop low = f[low] :: f.drop (low + 1) := List.drop_eq_getElem_cons (by omega)
            have hsl := sdiv_length b (f.drop low)
            cases es : sdiv b (f.drop low) with
            | nil => rw [es, List.length_drop] at hsl; simp at hsl; omega
            | cons d q =>
              rw [es] at hc hsl
              have ltk : (f.take low).length = low := by rw [List.length_take]; omega
              have lq : q.length = (f.drop low).length - 1 := by simp at hsl; simp; omega
              refine ⟨[.vl false o, .vl false (I b), .vl true (nO f), VI xs.length, VI low, c], [.vl false o, .vl false (I b), .vl true (nO (f.take low ++ d :: q)), VI xs.length, VI low, c'], by simp [intR], hc, f.take low ++ d :: q, VI low, c', rfl, ?_, ?_, ?_⟩
              · rw [List.length_append, ltk, List.length_cons, lq, List.length_drop]; omega
              · have hs := sdiv_lt hn (xs := f.drop low) (m := 100000 + 8100 * low) fun y hy => bf y (List.mem_of_mem_drop hy)
                rw [es] at hs
                have hq3 : (80 + 1) * (f.drop low).length ≤ 81 * 100 := Nat.mul_le_mul_left _ (by rw [List.length_drop]; omega)
                intro y hy
                rcases List.mem_append.mp hy with e | e
                · exact lt_up (bf y (List.mem_of_mem_take e)) (by omega)
                · exact lt_up (hs y e) (by omega)
              · rw [hf]
                have e1 : pshift b (f.drop low) = d :: pshift b q := by
                  unfold pshift
                  rw [show (f.drop low).length = q.length + 1 by rw [lq]; rw [List.length_drop]; omega]
                  show (match sdiv b (f.drop low) with | [] => [] | c :: q' => c :: shiftL b q.length q') = _
                  rw [es]
                have e2 : (f.take low ++ d :: q).take (low + 1) = f.take low ++ [d] := by
                  rw [List.take_append, ltk, List.take_of_length_le (by omega)]
                  congr 1
                  rw [show low + 1 - low = 1 by omega]; rfl
                have e3 : (f.take low ++ d :: q).drop (low + 1) = q := by
                  rw [List.drop_append, ltk, List.drop_eq_nil_of_le (by omega), show low + 1 - low = 1 by omega]; rfl
                rw [e1, e2, e3, List.append_assoc]; rfl)
        subst h2
        have hfin : pshift b xs = f := by
          rw [hf]
          by_cases h0 : f = []
          · rw [h0]; simp [pshift, shiftL]
          · have lpos : 0 < f.length := List.length_pos_iff.mpr h0
            have e0 : ((xs.length : Int) - 1).toNat = f.length - 1 := by omega
            rw [e0]
            have hd : f.drop (f.length - 1) = [f[f.length - 1]] := by rw [List.drop_eq_getElem_cons (by omega), List.drop_eq_nil_of_le (by omega)]
            have e1 : pshift b (f.drop (f.length - 1)) = f.drop (f.length - 1) := by rw [hd]; rfl
            rw [e1, List.take_append_drop]
        rw [hfin]
        unfold B_shifted
        refine run_ret (seq_go (r' := [.vl false o, .vl false (I b), .vl true (nO xs), .un, .un, .un]) (set_go (x := .nw (nO xs)) (y := .vl true (nO xs)) ?_ rfl (by simp [startE])) (seq_go (r' := [.vl false o, .vl false (I b), .vl true (nO xs), VI xs.length, .un, .un]) (set_go (x := .nw (I xs.length)) ?_ rfl (by simp)) (seq_go (for_go ?_ h1) rfl)))
        · rw [eB_ev, aCons_ev, var_of (i := 0) (w := false) (o := o) rfl]
          simp [gList_IL hx]
        · rw [eB_ev, aCons_ev, var_of (i := 2) (w := true) (o := nO xs) rfl]
          simp only [res_ok, see_a, aNil_ev, gLen_IL (asIL_ls xs)]
        · rw [iRng_ev, aCons_ev, eOp_ev, var_of (i := 3) (w := true) (o := I xs.length) rfl]
          simp only [res_ok, see_a, eC_ev, ra_nw, er_fz, gSub_ev, aNil_ev]
          exact rng1_any (by omega) (by omega)
      · left; rw [if_neg hv]
    · exact .inl rfl
  · exact .inl rfl

theorem divisor_loop (n : Nat) : ∀ (a b : Nat) (x : S), b < n → ∃ y, whl (tOf (eOp gGt (eVar 1) (eC (.int 0)))) (sSeq (sSet 2 false (eOp gMod (eVar 0) (eVar 1))) (sSeq (sSet 0 false (eVar 1)) (sSet 1 false (eVar 2)))) n [VI a, VI b, x] = .nx [VI (Nat.gcd a b : Nat), VI 0, y] := by
  induction n with
  | zero => intro a b x h; omega
  | succ n ih =>
    intro a b x h
    by_cases hb : b = 0
    · subst hb
      exact ⟨x, by rw [whl_f (by simp [eVar])]; simp⟩
    · obtain ⟨y, hy⟩ := ih b (a % b) (VI (a % b : Nat)) (by have := Nat.mod_lt a (Nat.pos_of_ne_zero hb); omega)
      refine ⟨y, ?_⟩
      rw [gcd_turn] at hy
      rw [whl_t (r' := [VI b, VI (a % b : Nat), VI (a % b : Nat)]) (by simp [eVar]; omega) (by simp [eVar, gMod_ev (show (b : Int) ≠ 0 by omega), fmod_nat])]
      exact hy
theorem imp_divisor : ∀ os : List O, os.length = 2 → M_divisor os = .bad ∨ M_divisor os = runF 3 B_divisor os := by
  intro os h
  unfold M_divisor
  split
  · rename_i a b
    right
    obtain ⟨y, hy⟩ := divisor_loop (b.natAbs + 1) a.natAbs b.natAbs S.un (by omega)
    simp [runF, startE, B_divisor, eVar, sWh, slotN, absI_eq] at hy ⊢
    rw [hy]
    simp [gcdI, Int.gcd]
  · exact .inl rfl
theorem imp_ratio : ∀ os : List O, os.length = 2 → M_ratio os = .bad ∨ M_ratio os = runF 3 B_ratio os := by
  intro os h
  unfold M_ratio
  split
  · rename_i a b
    by_cases hb : b = 0
    · right; subst hb; simp [runF, startE, B_ratio, eVar, sRaise]
    · rw [if_neg hb]
      by_cases hs : small9 (sgcd a b) = true
      · right
        rw [if_pos hs]
        by_cases hn : b < 0
        · have e : sgcd a b = -gcdI a b := if_pos hn
          rw [e] at hs
          have hz : -gcdI a b ≠ 0 := by rw [← e]; exact sgcd_ne hb
          simp [runF, startE, B_ratio, eVar, hb, hn, M_divisor, eTup, tupR, toDs, gDiv_s9 hz hs, rtop, rbot, e]
        · have e : sgcd a b = gcdI a b := if_neg hn
          rw [e] at hs
          have hz : gcdI a b ≠ 0 := by rw [← e]; exact sgcd_ne hb
          simp [runF, startE, B_ratio, eVar, hb, hn, M_divisor, eTup, tupR, toDs, gDiv_s9 hz hs, rtop, rbot, e]
      · left; rw [if_neg hs]
  · exact .inl rfl
theorem imp_one_sign : ∀ os : List O, os.length = 1 → M_one_sign os = .bad ∨ M_one_sign os = runF 1 B_one_sign os := by
  intro os h
  unfold M_one_sign
  split
  · rename_i o
    split
    · rename_i xs hx
      right
      symm
      have k0 : ∀ r : Env, eLst aNil r = .ok (.nw (nO [])) := fun r => by simp [eLst, allFz, iL]
      have e0 : tOf (eOp gEq (eVar 0) (eLst aNil)) [.vl false o] = .ok (decide (xs = [])) := by
        rw [tOf_ev, op_of (var_of (i := 0) rfl) (k0 _), see_a, ra_nO, gEq_IL hx (asIL_lst [])]; simp
      unfold B_one_sign
      cases xs with
      | nil => exact run_ret (seq_ret (if_t (by rw [tOr_ev]; exact (by rw [show startE 1 [o] = [.vl false o] from rfl, e0]; rfl)) rfl))
      | cons x t =>
        have e1 : eIx (eVar 0) (eC (.int 0)) [.vl false o] = .ok (.nw (I x)) := ix_IL (i := 0) (k := 0) (var_of (w := false) rfl) (by rw [see_a]; exact hx) (eC_ev _) rfl (by simp)
        by_cases hz : x = 0
        · refine run_ret (seq_ret (if_t ?_ ?_))
          · rw [show startE 1 [o] = [.vl false o] from rfl, tOr_ev, e0, tOf_ev, op_of e1 (eC_ev _)]; simp [hz]
          · simp [sgn1, hz]
        · refine run_ret (seq_go (if_f (or_ff (by rw [show startE 1 [o] = [.vl false o] from rfl, e0]; rfl) (by rw [show startE 1 [o] = [.vl false o] from rfl, tOf_ev, op_of e1 (eC_ev _)]; simp [hz])) rfl) (ret_go ?_))
          show eOr _ _ [.vl false o] = _
          have g1 : eOp gGe (eB gMinL (aCons (eVar 0) aNil)) (eC (.int 0)) [.vl false o] = .ok (.nw (.fz (.bl (decide (0 ≤ minL x t))))) := by
            rw [op_of (x := .nw (I (minL x t))) (by rw [b1 (var_of (i := 0) rfl), see_a, min_IL hx]) (eC_ev _)]; rfl
          have g2 : eOp gLe (eB gMaxL (aCons (eVar 0) aNil)) (eC (.int 0)) [.vl false o] = .ok (.nw (.fz (.bl (decide (maxL x t ≤ 0))))) := by
            rw [op_of (x := .nw (I (maxL x t))) (by rw [b1 (var_of (i := 0) rfl), see_a, max_IL hx]) (eC_ev _)]; rfl
          rw [eOr, g1, res_ok]
          simp only [ra_nw, er_fz, onB, sgn1, hz, decide_false, Bool.not_false, Bool.true_and]
          by_cases hm : 0 ≤ minL x t
          · simp [hm]
          · simp only [hm, decide_false, Bool.false_or, Bool.false_eq_true, if_false]; exact g2
    · exact .inl rfl
  · exact .inl rfl
theorem imp_reach : ∀ os : List O, os.length = 1 → M_reach os = .bad ∨ M_reach os = runF 3 B_reach os := by
  intro os h
  unfold M_reach
  split
  · rename_i o
    split
    · rename_i xs hx
      have k0 : ∀ r : Env, eLst aNil r = .ok (.nw (nO [])) := fun r => by simp [eLst, allFz, iL]
      have e0 : tOf (eOp gEq (eVar 0) (eLst aNil)) [.vl false o, .un, .un] = .ok (decide (xs = [])) := by
        rw [tOf_ev, op_of (var_of (i := 0) rfl) (k0 _), see_a, ra_nO, gEq_IL hx (asIL_lst [])]; simp
      by_cases hn : xs = []
      · right
        rw [if_pos hn]
        symm
        exact run_exc (r' := [.vl false o, .un, .un]) (seq_exc (if_t (by rw [show startE 3 [o] = [.vl false o, .un, .un] from rfl, e0, decide_eq_true hn]) rfl))
      · rw [if_neg hn]
        by_cases hs : rcOk xs = true
        · right
          rw [if_pos hs]
          symm
          obtain ⟨hl, hb⟩ := rcOk_iff hs
          have key := for_first (fg := gN 2) (F := (sSeq (sIf (tOf (eCall M_one_sign (aCons (eVar 1) aNil))) (sRet (eVar 2)) sNil) (sSet 1 false (eCall M_shifted (aCons (eVar 1) (aCons (eC (.int 1)) aNil)))))) (g := fun (k : Nat) => intR (k : Int)) (n := 61) (r := [.vl false o, .vl true (lO xs), .un])
            (fun i r => ∃ z, r = [.vl false o, .vl true (lO (pshift i xs)), z]) (fun i => sgn1 (pshift i xs)) (fun i => I i) ⟨.un, by rw [show ((0 : Nat) : Int) = 0 from rfl, pshift_zero]⟩ (fun i r hi ⟨z, hr⟩ => by
              subst hr
              refine ⟨[.vl false o, .vl true (lO (pshift i xs)), VI i], by simp [intR], fun ht => ?_, fun ht => ⟨[.vl false o, .vl true (lO (pshift (i + 1 : Nat) xs)), VI i], ?_, VI i, rfl⟩⟩
              · refine seq_ret (if_t (tOf_ok ?_) (by simp [eVar]))
                rw [call1 (var_of (i := 1) rfl) (by rw [see_a]; exact sign_ok (asIL_lst _)), ht]
              · refine seq_go (if_f (tOf_ok ?_) rfl) ?_
                · rw [call1 (var_of (i := 1) rfl) (by rw [see_a]; exact sign_ok (asIL_lst _)), ht]
                · have e : pshift 1 (pshift i xs) = pshift (i + 1 : Nat) xs := by rw [pshift_add]; congr 1; omega
                  rw [← e]
                  have hi2 : ((i : Nat) : Int).natAbs < 2 ^ 8 := by rw [Int.natAbs_natCast]; omega
                  exact set_go (call2 (x := .nw (lO (pshift i xs))) (y := .nw (I 1)) rfl rfl (shift_ok (asIL_lst _) (shOk_of 40000 (by omega) (by omega) (by rw [pshift_length]; omega) (rcOk_sh hs hi2) (by decide)))) (put_nO _) (by simp))
          have start : ∀ {o' : Out}, (sSeq (sFor (iRng rng1 (aCons (eOp gAddA (eC (.int 60)) (eC (.int 1))) aNil)) (gN 2) (sSeq (sIf (tOf (eCall M_one_sign (aCons (eVar 1) aNil))) (sRet (eVar 2)) sNil) (sSet 1 false (eCall M_shifted (aCons (eVar 1) (aCons (eC (.int 1)) aNil)))))) (sRaise "TooGreat")) [.vl false o, .vl true (lO xs), .un] = o' → B_reach (startE 3 [o]) = o' := fun {o'} hq => by
            refine seq_go (if_f (by rw [show startE 3 [o] = [.vl false o, .un, .un] from rfl, e0, decide_eq_false hn]) rfl) (seq_go (set_go (list_slot (i := 0) rfl hx) (put_nO xs) (by simp [startE])) ?_)
            exact hq
          have hrng : ∀ r : Env, iRng rng1 (aCons (eOp gAddA (eC (.int 60)) (eC (.int 1))) aNil) r = .ok ((List.range 61).map fun (k : Nat) => intR (k : Int)) := fun r => rng_ok (n := 61) (by simp) (by omega)
          rcases key with ⟨i, hi, ht, hj, hf⟩ | ⟨hall, r', hf, _⟩
          · rw [rch_some hi ht hj]
            exact run_ret (start (seq_ret (for_go (hrng _) hf)))
          · rw [rch_none hall]
            exact run_exc (r' := r') (start (seq_go (for_go (hrng _) hf) rfl))
        · left; rw [if_neg hs]
    · exact .inl rfl
  · exact .inl rfl
theorem imp_look_at_rule : ∀ os : List O, os.length = 1 → M_look_at_rule os = .bad ∨ M_look_at_rule os = runF 2 B_look_at_rule os := by
  intro os h
  unfold M_look_at_rule
  split
  · rename_i d
    split
    · rename_i ls hd
      right
      have hd := dLL_eq hd
      subst hd
      symm
      have st : startE 2 [.fz (LD ls)] = [.vl false (.fz (LD ls)), .un] := rfl
      have t1 : ∀ z, tOf (eOp gEq (eVar 0) (eLst aNil)) [.vl false (.fz (LD ls)), z] = .ok (decide (ls = [])) := fun z => by
        rw [tOf_ev, op_of (x := .nw (.fz (LD ls))) (y := .nw (.ls (oL []))) rfl rfl, gEq_L (xs := ls) (ys := []) rfl rfl]; rfl
      unfold B_look_at_rule
      by_cases h0 : ls = []
      · have e : okRule ls = false := by rw [h0]; rfl
        rw [e]
        have : tOrD (tOf (eOp gEq (eVar 0) (eLst aNil))) (tOf (eOp gEq (eIx (eVar 0) (eUn gNeg (eC (.int 1)))) (eLst aNil))) [.vl false (.fz (LD ls)), .un] = .ok true := by
          rw [tOr_ev, t1, decide_eq_true h0]; rfl
        exact run_exc (r' := [.vl false (.fz (LD ls)), .un]) (seq_exc (if_t this rfl))
      · have pl : 0 < ls.length := List.length_pos_iff.mpr h0
        have il : eIx (eVar 0) (eUn gNeg (eC (.int 1))) [.vl false (.fz (LD ls)), .un] = .ok (.nw (lO (ls.getD (ls.length - 1) []))) := by
          rw [ix_lastL (i := 0) (w := false) rfl (by simp) pl, getD_lt (by omega)]
        have t2 : tOrD (tOf (eOp gEq (eVar 0) (eLst aNil))) (tOf (eOp gEq (eIx (eVar 0) (eUn gNeg (eC (.int 1)))) (eLst aNil))) [.vl false (.fz (LD ls)), .un] = .ok (decide (ls.getD (ls.length - 1) [] = [])) := by
          rw [tOr_ev, t1, decide_eq_false h0, res_ok, tOf_ev, op_of il (nil_ok _), ra_nO, ra_nw, er_fz, gEq_IL (asIL_lst _) (asIL_lst [])]; rfl
        by_cases h1 : ls.getD (ls.length - 1) [] = []
        · have e : okRule ls = false := by
            rw [Bool.eq_false_iff]
            exact fun z => (okRule_iff.mp z).2.1 h1
          rw [e]
          exact run_exc (r' := [.vl false (.fz (LD ls)), .un]) (seq_exc (if_t (t2.trans (by rw [decide_eq_true h1])) rfl))
        · have body : ∀ p : List Int, sIf (tAndD (tOf (eOp gNe (eVar 1) (eLst aNil))) (tOf (eOp gEq (eIx (eVar 1) (eUn gNeg (eC (.int 1)))) (eC (.int 0))))) (sRaise "NoRule") sNil [.vl false (.fz (LD ls)), .vl true (lO p)] = if trim p = p then .nx [.vl false (.fz (LD ls)), .vl true (lO p)] else .exc ⟨"NoRule", []⟩ [.vl false (.fz (LD ls)), .vl true (lO p)] := fun p => by
            have u1 : tOf (eOp gNe (eVar 1) (eLst aNil)) [.vl false (.fz (LD ls)), .vl true (lO p)] = .ok (!decide (p = [])) := by
              rw [tOf_ev, op_of (x := .nw (lO p)) rfl (nil_ok _), ra_nO, ra_nw, er_fz, gNe_IL (asIL_lst p) (asIL_lst [])]; rfl
            by_cases hp : 0 < p.length
            · rw [decide_eq_false (List.length_pos_iff.mp hp)] at u1
              have u2 : tOf (eOp gEq (eIx (eVar 1) (eUn gNeg (eC (.int 1)))) (eC (.int 0))) [.vl false (.fz (LD ls)), .vl true (lO p)] = .ok (decide (co p (p.length - 1) = 0)) := by
                have : eIx (eVar 1) (eUn gNeg (eC (.int 1))) [.vl false (.fz (LD ls)), .vl true (lO p)] = .ok (.nw (I (co p (p.length - 1)))) := by
                  rw [co_lt (by omega)]
                  exact ix_lastIL (x := .nw (lO p)) rfl (asIL_lst p) (by simp) hp
                rw [tOf_ev, op_of this (eC_ev _)]; rfl
              by_cases hz : co p (p.length - 1) = 0
              · rw [if_neg (fun z => trim_ends.mp z ⟨hp, hz⟩)]
                exact if_t (and_t u1 (u2.trans (by rw [decide_eq_true hz]))) rfl
              · rw [if_pos (trim_ends.mpr fun z => hz z.2)]
                exact if_f (and_t u1 (u2.trans (by rw [decide_eq_false hz]))) rfl
            · have : p = [] := List.length_eq_zero_iff.mp (by omega)
              subst this
              rw [if_pos (show trim ([] : List Int) = [] from rfl)]
              exact if_f (and_f u1) rfl
          rcases for_firstX (fg := gN 1) (F := sIf (tAndD (tOf (eOp gNe (eVar 1) (eLst aNil))) (tOf (eOp gEq (eIx (eVar 1) (eUn gNeg (eC (.int 1)))) (eC (.int 0))))) (sRaise "NoRule") sNil) (g := fun k => polR (ls.getD k [])) (n := ls.length) (r := [.vl false (.fz (LD ls)), .un]) (x := ⟨"NoRule", []⟩)
            (fun _ r => ∃ z, r = [.vl false (.fz (LD ls)), z]) (fun k => !decide (trim (ls.getD k []) = ls.getD k [])) ⟨.un, rfl⟩ (fun k r hk ⟨z, hr⟩ => by
              subst hr
              refine ⟨[.vl false (.fz (LD ls)), .vl true (lO (ls.getD k []))], rfl, fun ht => ?_, fun ht => ?_⟩
              · rw [body, if_neg (by simpa using ht)]; exact ⟨_, rfl⟩
              · rw [body, if_pos (by simpa using ht)]; exact ⟨_, rfl, _, rfl⟩) with ⟨k, hk, ht, _, z, hz⟩ | ⟨ht, r', hr, _⟩
          · have e : okRule ls = false := by
              rw [Bool.eq_false_iff]
              intro q
              have := (okRule_iff.mp q).2.2 _ (getD_mem (d := []) hk)
              rw [decide_eq_true this] at ht
              cases ht
            rw [e]
            exact run_exc (r' := z) (seq_go (if_f (t2.trans (by rw [decide_eq_false h1])) rfl) (for_go (iLst_L (i := 0) (w := false) rfl (.inl rfl) (.inr rfl)) hz))
          · have e : okRule ls = true := by
              rw [okRule_iff]
              refine ⟨pl, h1, fun p hp => ?_⟩
              obtain ⟨k, hk, e⟩ := List.mem_iff_getElem.mp hp
              have := ht k hk
              rw [getD_lt hk, e] at this
              simpa using this
            rw [e]
            exact run_nx (r' := r') (seq_go (if_f (t2.trans (by rw [decide_eq_false h1])) rfl) (for_go (iLst_L (i := 0) (w := false) rfl (.inl rfl) (.inr rfl)) hr))
    · exact .inl rfl
  · exact .inl rfl
theorem imp_order_of : ∀ os : List O, os.length = 1 → M_order_of os = .bad ∨ M_order_of os = runF 1 B_order_of os := by
  intro os h
  unfold M_order_of
  split
  · rename_i d
    split
    · rename_i ls hd
      right
      have hd := dLL_eq hd
      subst hd
      symm
      have eM : M_look_at_rule [.fz (LD ls)] = if okRule ls then .ok (.fz .non) else .exc ⟨"NoRule", []⟩ := by
        show (match dLL (LD ls) with
          | some ls => if okRule ls then Res.ok (O.fz .non) else .exc ⟨"NoRule", []⟩
          | none => .bad) = _
        rw [dLL_LD]
      have st : startE 1 [.fz (LD ls)] = [.vl false (.fz (LD ls))] := rfl
      unfold B_order_of
      have ea : aCons (eVar 0) aNil [.vl false (.fz (LD ls))] = .ok [.fz (LD ls)] := rfl
      by_cases hk : okRule ls = true
      · rw [if_pos hk] at eM ⊢
        have ec : eCallZ M_look_at_rule (aCons (eVar 0) aNil) [.vl false (.fz (LD ls))] = .ok (.nw (.fz .non)) := callZ_ok ea eM rfl
        refine run_ret (seq_go (r' := [.vl false (.fz (LD ls))]) (by rw [st, sDrop_ev, ec]) (ret_go (z := I (ls.length - 1)) ?_))
        rw [op_of (len_L (i := 0) (w := false) rfl (.inr rfl)) (eC_ev _)]; rfl
      · rw [if_neg hk] at eM ⊢
        have ec : eCallZ M_look_at_rule (aCons (eVar 0) aNil) [.vl false (.fz (LD ls))] = .exc ⟨"NoRule", []⟩ := callZ_exc ea eM
        exact run_exc (r' := [.vl false (.fz (LD ls))]) (seq_exc (by rw [st, sDrop_ev, ec]))
    · exact .inl rfl
  · exact .inl rfl
theorem last_ne {ls : List (List Int)} (h : okRule ls = true) : ∃ (hp : 0 < ls.length), ls[ls.length - 1]'(by omega) ≠ [] := by
  obtain ⟨h1, h2, _⟩ := okRule_iff.mp h
  refine ⟨h1, ?_⟩
  rwa [getD_lt (by omega)] at h2
theorem need_no {ls : List (List Int)} (h : okRule ls = false) : M_need_of [.fz (LD ls)] = .exc ⟨"NoRule", []⟩ := by
  have e : eCallZ M_order_of (aCons (eVar 0) aNil) [.vl false (.fz (LD ls))] = .exc ⟨"NoRule", []⟩ := callZ_exc (os := [.fz (LD ls)]) rfl (order_no h)
  show runF 1 B_need_of _ = _
  unfold B_need_of
  exact run_exc (r' := [.vl false (.fz (LD ls))]) (by rw [show startE 1 [.fz (LD ls)] = [.vl false (.fz (LD ls))] from rfl, sRet_ev, eOp_ev, e]; rfl)
theorem need_pre {ls : List (List Int)} (h : okRule ls = true) (hp : 0 < ls.length) : eCallZ M_order_of (aCons (eVar 0) aNil) [.vl false (.fz (LD ls))] = .ok (.nw (I (ls.length - 1))) ∧ eIx (eVar 0) (eUn gNeg (eC (.int 1))) [.vl false (.fz (LD ls))] = .ok (.nw (lO (ls[ls.length - 1]'(by omega)))) :=
  ⟨callZ_ok (os := [.fz (LD ls)]) rfl (order_ok h) rfl, ix_lastL (i := 0) (w := false) rfl (by simp) hp⟩
theorem need_some {ls : List (List Int)} {m : Nat} (h : okRule ls = true) (hp : 0 < ls.length) (hr : rcOk (ls[ls.length - 1]'(by omega)) = true) (hm : rch (ls[ls.length - 1]'(by omega)) = some m) : M_need_of [.fz (LD ls)] = .ok (I (ls.length - 1 + m)) := by
  obtain ⟨e1, e2⟩ := need_pre h hp
  obtain ⟨_, h0⟩ := last_ne h
  have e3 : M_reach [lO (ls[ls.length - 1]'(by omega))] = .ok (I m) := by simp [M_reach, h0, hr, hm]
  show runF 1 B_need_of _ = _
  unfold B_need_of
  refine run_ret (ret_go ?_)
  show eOp _ _ _ [.vl false (.fz (LD ls))] = _
  rw [op_of e1 (call1 e2 e3)]; rfl
theorem need_none {ls : List (List Int)} (h : okRule ls = true) (hp : 0 < ls.length) (hr : rcOk (ls[ls.length - 1]'(by omega)) = true) (hm : rch (ls[ls.length - 1]'(by omega)) = none) : M_need_of [.fz (LD ls)] = .exc ⟨"TooGreat", []⟩ := by
  obtain ⟨e1, e2⟩ := need_pre h hp
  obtain ⟨_, h0⟩ := last_ne h
  have e3 : M_reach [lO (ls[ls.length - 1]'(by omega))] = .exc ⟨"TooGreat", []⟩ := by simp [M_reach, h0, hr, hm]
  have e4 : eCall M_reach (aCons (eIx (eVar 0) (eUn gNeg (eC (.int 1)))) aNil) [.vl false (.fz (LD ls))] = .exc ⟨"TooGreat", []⟩ := by
    rw [eCall_ev, aCons_ev, e2]
    simp only [res_ok, aNil_ev, ra_nw, er_fz, e3]
    rfl
  show runF 1 B_need_of _ = _
  unfold B_need_of
  exact run_exc (r' := [.vl false (.fz (LD ls))]) (by rw [show startE 1 [.fz (LD ls)] = [.vl false (.fz (LD ls))] from rfl, sRet_ev, eOp_ev, e1, res_ok, e4]; rfl)
abbrev wgTurn : FS := (sSeq (sSet 2 false (eOp gAddA (eOp gMulA (eVar 2) (eIx (eVar 5) (eC (.int 1)))) (eOp gMulA (eOp gMulA (eVar 4) (eIx (eVar 5) (eC (.int 0)))) (eVar 3)))) (sSet 3 false (eOp gMulA (eVar 3) (eIx (eVar 5) (eC (.int 1))))))
theorem wg_turn {A B : S} {t s w x y : Int} (ht : t.natAbs < 2 ^ 900000) (hs : s.natAbs < 2 ^ 420000) (hw : w.natAbs < 2 ^ 50000) (hx : x.natAbs < 2 ^ 50000) (hy : y.natAbs < 2 ^ 50000) :
    wgTurn [A, B, VI t, VI s, VI w, fS (x, y)] = .nx [A, B, VI (t * y + w * x * s), VI (s * y), VI w, fS (x, y)] := by
  have i0 : ∀ t, eIx (eVar 5) (eC (.int 0)) [A, B, VI t, VI s, VI w, fS (x, y)] = .ok (.nw (I x)) := fun t => tup_i0 (i := 5) (w := true) rfl
  have i1 : ∀ t, eIx (eVar 5) (eC (.int 1)) [A, B, VI t, VI s, VI w, fS (x, y)] = .ok (.nw (I y)) := fun t => tup_i1 (i := 5) (w := true) rfl
  have m1 : gMulA (I t) (I y) = .ok (.nw (I (t * y))) := gMul_lt 900000 50000 ht hy (by omega) (by omega) (by omega)
  have m2 : gMulA (I w) (I x) = .ok (.nw (I (w * x))) := gMul_lt 50000 50000 hw hx (by omega) (by omega) (by omega)
  have m3 : gMulA (I (w * x)) (I s) = .ok (.nw (I (w * x * s))) := gMul_lt 100000 420000 (natAbs_mul_lt hw hx (by omega)) hs (by omega) (by omega) (by omega)
  have m4 : gMulA (I s) (I y) = .ok (.nw (I (s * y))) := gMul_lt 420000 50000 hs hy (by omega) (by omega) (by omega)
  refine seq_go (r' := [A, B, VI (t * y + w * x * s), VI s, VI w, fS (x, y)]) (set_go (x := .nw (I (t * y + w * x * s))) ?_ rfl (by simp)) ?_
  · have e1 : eOp gMulA (eVar 2) (eIx (eVar 5) (eC (.int 1))) [A, B, VI t, VI s, VI w, fS (x, y)] = .ok (.nw (I (t * y))) := by
      rw [op_of (x := .nw (I t)) rfl (i1 t)]; exact m1
    have e2 : eOp gMulA (eVar 4) (eIx (eVar 5) (eC (.int 0))) [A, B, VI t, VI s, VI w, fS (x, y)] = .ok (.nw (I (w * x))) := by
      rw [op_of (x := .nw (I w)) rfl (i0 t)]; exact m2
    have e3 : eOp gMulA (eOp gMulA (eVar 4) (eIx (eVar 5) (eC (.int 0)))) (eVar 3) [A, B, VI t, VI s, VI w, fS (x, y)] = .ok (.nw (I (w * x * s))) := by
      rw [op_of e2 (y := .nw (I s)) rfl]; exact m3
    rw [op_of e1 e3]; rfl
  · rw [set_go (x := .nw (I (s * y))) (by rw [op_of (x := .nw (I s)) rfl (i1 _)]; exact m4) rfl (by simp)]; rfl
theorem imp_weighed : ∀ os : List O, os.length = 2 → M_weighed os = .bad ∨ M_weighed os = runF 6 B_weighed os := by
  intro os h
  unfold M_weighed
  split
  · rename_i d e
    split
    · rename_i ws vs hd he
      by_cases hk : wOk ws vs = true
      · right
        rw [if_pos hk]
        obtain ⟨hl, h8, hw, hv⟩ := wOk_iff hk
        have hde : (O.fz d) = lO ws := by
          rcases asIL_cases hd with z | z
          · cases z
          · exact z
        cases hde
        have he := dVs_eq he
        subst he
        symm
        have st : startE 6 [lO ws, .fz (VD vs)] = [.vl false (lO ws), .vl false (.fz (VD vs)), .un, .un, .un, .un] := rfl
        obtain ⟨r', h1, z4, z5, h2⟩ := for_gen (fg := gT [gN 4, gN 5]) (F := wgTurn) (g := fun k => tup2 (.int (ws.getD k 0)) (fD (vs.getD k (0, 0)))) (n := ws.length) (r := [.vl false (lO ws), .vl false (.fz (VD vs)), VI 0, VI 1, .un, .un])
          (fun k r => ∃ a b, r = [.vl false (lO ws), .vl false (.fz (VD vs)), VI (wgh (ws.take k) (vs.take k) (0, 1)).1, VI (wgh (ws.take k) (vs.take k) (0, 1)).2, a, b]) ⟨.un, .un, rfl⟩ (fun k r hk ⟨a, b, hr⟩ => by
            subst hr
            have bd := wgh_lt (a := 50000) (b := 50000) (ws.take k) (vs.take k) 50001 1 0 1 (fun y hy => hw y (List.mem_of_mem_take hy)) (fun p hp => hv p (List.mem_of_mem_take hp)) (by decide) (by decide) (by omega)
            have lk : (ws.take k).length ≤ 7 := by rw [List.length_take]; omega
            have m1 : (50000 + 50000 + 1) * (ws.take k).length ≤ (50000 + 50000 + 1) * 7 := Nat.mul_le_mul_left _ lk
            have m2 : 50000 * (ws.take k).length ≤ 50000 * 7 := Nat.mul_le_mul_left _ lk
            have v := hv _ (getD_mem (d := (0, 0)) (show k < vs.length by omega))
            have wk := hw _ (getD_mem (d := 0) hk)
            refine ⟨_, _, tup2_set (by simp) (by simp), wg_turn (x := (vs.getD k (0, 0)).1) (y := (vs.getD k (0, 0)).2) (lt_up bd.1 (by omega)) (lt_up bd.2 (by omega)) wk v.1 v.2, VI (ws.getD k 0), fS (vs.getD k (0, 0)), ?_⟩
            rw [wgh_take hl hk, getD_lt hk, getD_lt (show k < vs.length by omega)])
        subst h2
        rw [List.take_length, List.take_of_length_le (by omega)] at h1
        have iz : iZipD (eVar 0) (eVar 1) [.vl false (lO ws), .vl false (.fz (VD vs)), VI 0, VI 1, .un, .un] = .ok ((List.range ws.length).map fun k => tup2 (.int (ws.getD k 0)) (fD (vs.getD k (0, 0)))) := by
          have f1 : fzsOf (ws.map intR) = some (ws.map .int) := fzsOf_map ws
          have f2 : fzsOf (vs.map fun p => R.nw (.fz (fD p))) = some (vs.map fD) := by
            have h : ∀ vs : List (Int × Int), fzsOf (vs.map fun p => R.nw (.fz (fD p))) = some (vs.map fD) := fun vs => by
              induction vs with
              | nil => rfl
              | cons x xs ih => simp only [List.map_cons, fzsOf, ih]; rfl
            exact h vs
          have e0 : eVar 0 [.vl false (lO ws), .vl false (.fz (VD vs)), VI 0, VI 1, .un, .un] = .ok (.nw (lO ws)) := rfl
          have e1 : eVar 1 [.vl false (lO ws), .vl false (.fz (VD vs)), VI 0, VI 1, .un, .un] = .ok (.nw (.fz (VD vs))) := rfl
          simp only [iZipD, e0, e1, res_ok, its_nw (asIL_lst ws), itsL_VD, zipR, f1, f2]
          congr 1
          unfold zipL
          refine List.ext_getElem? fun k => ?_
          by_cases hk : k < ws.length
          · have hk2 : k < vs.length := by omega
            simp [List.getElem?_zip_eq_some, hk, hk2, List.getElem?_map]
            exact ⟨_, _, ⟨rfl, rfl⟩, rfl⟩
          · simp [hk, show ¬ k < vs.length by omega]
            omega
        unfold B_weighed
        refine run_ret ?_
        rw [st]
        exact seq_go (r' := [.vl false (lO ws), .vl false (.fz (VD vs)), VI 0, .un, .un, .un]) (set_go (x := .nw (I 0)) rfl rfl (by simp)) (seq_go (r' := [.vl false (lO ws), .vl false (.fz (VD vs)), VI 0, VI 1, .un, .un]) (set_go (x := .nw (I 1)) rfl rfl (by simp)) (seq_go (for_go iz h1) (ret_go rfl)))
      · left; rw [if_neg hk]
    · exact .inl rfl
  · exact .inl rfl
theorem imp__law_cell_at : ∀ os : List O, os.length = 2 → M__law_cell_at os = .bad ∨ M__law_cell_at os = runF 2 B__law_cell_at os := by
  intro os h
  unfold M__law_cell_at
  split
  · rename_i ns k
    by_cases hk : 0 ≤ k
    · right
      rw [if_pos hk]
      symm
      by_cases hl : k < (ns.length : Int)
      · have a0 : eIx (eVar 0) (eVar 1) [.vl false (.fz (.scr ns)), .vl false (.fz (.int k))] = .ok (.nw (I ns[k.toNat])) := ix_scr (k := k) (by simp [eVar]) (by simp [eVar]) (by omega) (by omega)
        have e : cellAt ns k = ns[k.toNat] := by
          unfold cellAt
          rw [List.getD_eq_getElem?_getD, List.getElem?_eq_getElem (by omega)]
          rfl
        rw [e]
        exact run_ret (seq_ret (if_t (by simp [eVar, startE, hl]) (ret_go a0)))
      · have e : cellAt ns k = 0 := by
          unfold cellAt
          rw [List.getD_eq_getElem?_getD, List.getElem?_eq_none (by omega)]
          rfl
        rw [e]
        refine run_ret (seq_go (if_f (by simp [eVar, startE]; omega) rfl) (by simp))
    · left; rw [if_neg hk]
  · exact .inl rfl
theorem imp__law_number : ∀ os : List O, os.length = 2 → M__law_number os = .bad ∨ M__law_number os = runF 2 B__law_number os := by
  intro os h
  unfold M__law_number
  split
  · rename_i i m
    by_cases hm : 1000 < m ∧ m < 2 ^ 300
    · right
      rw [if_pos hm]
      have eM : gMulA (.fz (.int 2)) (.fz (.int m)) = .ok (.nw (.fz (.int (2 * m)))) := gMul_lt 2 300 (by decide) (by omega) (by omega) (by omega) (by omega)
      have hz : 2 * m - 1 ≠ 0 := by omega
      by_cases h1 : i.fmod 3 = 0
      · simp [runF, startE, B__law_number, eVar, gMod_ev, gMod_ev hz, gDiv_pos, eM, lawNumM, h1]
      · by_cases h2 : i.fmod 3 = 1
        · simp [runF, startE, B__law_number, eVar, gMod_ev, gDiv_pos, lawNumM, h2]
        · simp [runF, startE, B__law_number, eVar, gMod_ev, gDiv_pos, lawNumM, h1, h2]
    · left; rw [if_neg hm]
  · exact .inl rfl



theorem imp_keeps : ∀ os : List O, os.length = 3 → M_keeps os = .bad ∨ M_keeps os = runF 7 B_keeps os := by
  intro os h
  unfold M_keeps
  split
  · rename_i d e n
    split
    · rename_i ls vs hd he
      have hd := dLL_eq hd
      subst hd
      have he := dVs_eq he
      subst he
      have st : startE 7 [.fz (LD ls), .fz (VD vs), I n] = [.vl false (.fz (LD ls)), .vl false (.fz (VD vs)), .vl false (I n), .un, .un, .un, .un] := rfl
      by_cases hk : okRule ls = false
      · right
        rw [if_pos hk]
        symm
        unfold B_keeps
        exact run_exc (r' := [.vl false (.fz (LD ls)), .vl false (.fz (VD vs)), .vl false (I n), .un, .un, .un, .un]) (seq_exc (by
          rw [st, sSet_ev, callZ_exc (os := [.fz (LD ls)]) rfl (order_no hk)]))
      · rw [if_neg hk]
        rw [Bool.not_eq_false] at hk
        obtain ⟨pl, _, _⟩ := okRule_iff.mp hk
        have e3 : sSet 3 false (eCallZ M_order_of (aCons (eVar 0) aNil)) [.vl false (.fz (LD ls)), .vl false (.fz (VD vs)), .vl false (I n), .un, .un, .un, .un] = .nx [.vl false (.fz (LD ls)), .vl false (.fz (VD vs)), .vl false (I n), VI (ls.length - 1), .un, .un, .un] :=
          set_go (callZ_ok (os := [.fz (LD ls)]) rfl (order_ok hk) rfl) rfl (by simp)
        generalize hE : ([.vl false (.fz (LD ls)), .vl false (.fz (VD vs)), .vl false (I n), VI (ls.length - 1), .un, .un, .un] : Env) = E at *
        have x2 : eVar 2 E = .ok (.nw (I n)) := by rw [← hE]; rfl
        have x3 : eVar 3 E = .ok (.nw (I (ls.length - 1))) := by rw [← hE]; rfl
        have xs : eOp gAddA (eVar 2) (eVar 3) E = .ok (.nw (I (n + (ls.length - 1)))) := by rw [op_of x2 x3]; rfl
        have xl : eB gLen (aCons (eVar 1) aNil) E = .ok (.nw (I vs.length)) := by
          rw [b1 (x := .nw (.fz (VD vs))) (by rw [← hE]; rfl)]
          show gLen [.fz (VD vs)] = _
          have : lenO (.fz (VD vs)) = some vs.length := by
            show (items (.fz (VD vs))).map List.length = _
            rw [items_VD]; simp
          simp only [gLen, this]; rfl
        have t1 : tOf (eOp gLt (eVar 2) (eC (.int 0))) E = .ok (decide (n < 0)) := by rw [tOf_ev, op_of x2 (eC_ev _)]; rfl
        have t2 : tOf (eOp gGe (eOp gAddA (eVar 2) (eVar 3)) (eB gLen (aCons (eVar 1) aNil))) E = .ok (decide ((vs.length : Int) ≤ n + (ls.length - 1))) := by rw [tOf_ev, op_of xs xl]; rfl
        by_cases hn : n < 0 ∨ (vs.length : Int) ≤ n + (ls.length - 1)
        · right
          rw [if_pos hn]
          symm
          have tt : tOrD (tOf (eOp gLt (eVar 2) (eC (.int 0)))) (tOf (eOp gGe (eOp gAddA (eVar 2) (eVar 3)) (eB gLen (aCons (eVar 1) aNil)))) E = .ok true := by
            rw [tOr_ev, t1, res_ok, t2]
            by_cases h1 : n < 0
            · simp [h1]
            · simp [h1, hn.resolve_left h1]
          unfold B_keeps
          exact run_exc (r' := E) (seq_go (by rw [st]; exact e3) (seq_exc (if_t tt rfl)))
        · rw [if_neg hn]
          by_cases hko : kpOk ls vs n.toNat = true
          · right
            rw [if_pos hko]
            symm
            obtain ⟨m, hm⟩ : ∃ m : Nat, n = m := ⟨n.toNat, by omega⟩
            subst hm
            rw [Int.toNat_natCast] at hko ⊢
            unfold kpOk at hko
            rw [Bool.and_eq_true, Bool.and_eq_true, decide_eq_true_eq] at hko
            obtain ⟨⟨hv, hw⟩, hlv⟩ := hko
            have lw := (wOk_iff hw).2.1
            rw [List.length_map] at lw
            have tt : tOrD (tOf (eOp gLt (eVar 2) (eC (.int 0)))) (tOf (eOp gGe (eOp gAddA (eVar 2) (eVar 3)) (eB gLen (aCons (eVar 1) aNil)))) E = .ok false := by
              rw [tOr_ev, t1, res_ok, t2, decide_eq_false (show ¬ (m : Int) < 0 by omega), decide_eq_false (show ¬ (vs.length : Int) ≤ m + (ls.length - 1) from fun z => hn (.inr z))]; rfl
            have ew : eLcD (iLst (eVar 0)) (gN 6) [6] tYesD (eCall M_poly_value (aCons (eVar 6) (aCons (eVar 2) aNil))) E = .ok (.nw (nO (ls.map (pev (m : Int))))) := by
              rw [lcD_gen (v := fun k => I (pev (m : Int) (ls.getD k []))) (iLst_L (i := 0) (w := false) (by rw [← hE]; rfl) (.inl rfl) (.inr rfl)) (by rw [← hE]; rfl) (fun k hk => ⟨[.vl false (.fz (LD ls)), .vl false (.fz (VD vs)), .vl false (I m), VI (ls.length - 1), .un, .un, .vl true (lO (ls.getD k []))], by rw [← hE]; rfl, ?_⟩) (by omega)]
              · congr 3
                refine List.ext_getElem? fun k => ?_
                by_cases h : k < ls.length
                · simp [iL, h]
                · simp [iL, h]
              · exact call2 (x := .nw (lO (ls.getD k []))) (y := .nw (I m)) rfl rfl (value_ok (asIL_lst _) (List.all_eq_true.mp hv _ (getD_mem hk)))
            have es : eSl (eVar 1) (pSome (eVar 2)) (pSome (eOp gAddA (eOp gAddA (eVar 2) (eVar 3)) (eC (.int 1)))) E = .ok (.nw (.ls ((vAt ls vs m).map fun p => .fz (fD p)))) := by
              have := sl_D (f := eVar 1) (l := pSome (eVar 2)) (h := pSome (eOp gAddA (eOp gAddA (eVar 2) (eVar 3)) (eC (.int 1)))) (r := E) (xs := vs) (k := fD) (lo := some (m : Int)) (hi := some ((m + ls.length : Nat) : Int)) (by rw [← hE]; rfl) (by simp only [pSome, x2]; rfl) (by
                have : eOp gAddA (eOp gAddA (eVar 2) (eVar 3)) (eC (.int 1)) E = .ok (.nw (I ((m + ls.length : Nat) : Int))) := by
                  rw [op_of xs (eC_ev _), show ((m + ls.length : Nat) : Int) = (m : Int) + (ls.length - 1) + 1 by omega]; rfl
                simp only [pSome, this]; rfl) (by omega)
              rw [cutL_mid, show m + ls.length - m = ls.length by omega] at this
              exact this
            have ec : eCall M_weighed (aCons (eLcD (iLst (eVar 0)) (gN 6) [6] tYesD (eCall M_poly_value (aCons (eVar 6) (aCons (eVar 2) aNil)))) (aCons (eSl (eVar 1) (pSome (eVar 2)) (pSome (eOp gAddA (eOp gAddA (eVar 2) (eVar 3)) (eC (.int 1))))) aNil)) E = .ok (.nw (.fz (fD (wgh (ls.map (pev (m : Int))) (vAt ls vs m) (0, 1))))) := by
              refine call2 ew es ?_
              rw [ra_nO, ra_nw, er_lsD]
              exact weighed_ok hw
            generalize hts : wgh (ls.map (pev (m : Int))) (vAt ls vs m) (0, 1) = ts at ec
            obtain ⟨t, s⟩ := ts
            unfold B_keeps
            refine run_ret (seq_go (by rw [st]; exact e3) (seq_go (if_f tt rfl) (seq_go (r' := [.vl false (.fz (LD ls)), .vl false (.fz (VD vs)), .vl false (I m), VI (ls.length - 1), VI t, VI s, .un]) (asgT_go ec ?_) (ret_go ?_))))
            · rw [← hE]
              show gT [gN 4, gN 5] (tup2 (.int t) (.int s)) _ = _
              rw [tup2_set (by simp) (by simp)]; rfl
            · rw [op_of (x := .nw (I t)) rfl (eC_ev _)]
              show gEq (I t) (I 0) = _
              rw [gEq_ev, kept, hts]
          · left; rw [if_neg hko]
    · exact .inl rfl
  · exact .inl rfl

theorem cut_loop {o : S} : ∀ (m : Nat) (xs : List Int), xs.length = m → whl (tAndD (tOf (eOp gGt (eB gLen (aCons (eVar 1) aNil)) (eC (.int 0)))) (tOf (eOp gEq (eIx (eVar 1) (eUn gNeg (eC (.int 1)))) (eC (.int 0))))) (sPop 1) (m + 1) [o, .vl true (nO xs)] = .nx [o, .vl true (nO (trim xs))]
  | 0, xs, h => by
    have : xs = [] := List.length_eq_zero_iff.mp h
    subst this
    rw [whl_f (by simp [eVar])]; simp [trim]
  | m + 1, xs, h => by
    rcases List.eq_nil_or_concat xs with e | ⟨ys, y, e⟩
    · subst e; simp at h
    · rw [List.concat_eq_append] at e
      subst e
      have hl : ys.length = m := by simpa using h
      have hx : eIx (eVar 1) (eUn gNeg (eC (.int 1))) [o, .vl true (nO (ys ++ [y]))] = .ok (.nw (I y)) := by
        have := ix_lastIL (f := eVar 1) (g := eUn gNeg (eC (.int 1))) (r := [o, .vl true (nO (ys ++ [y]))]) (xs := ys ++ [y]) (var_of rfl) (by simp only [see_a]; exact asIL_ls _) (by simp) (by simp)
        simpa using this
      by_cases h0 : y = 0
      · subst h0
        rw [whl_t (r' := [o, .vl true (nO ys)]) (by simp [eVar, hx]) (by simp [sPop, onOwn, allFz_append, allFz_iL, allFz, iL])]
        rw [cut_loop m ys hl, trim_snoc0]
      · rw [whl_f (by simp [eVar, hx, h0]), trim_snoc _ h0]
theorem imp__law_cut : ∀ os : List O, os.length = 1 → M__law_cut os = .bad ∨ M__law_cut os = runF 2 B__law_cut os := by
  intro os h
  unfold M__law_cut
  split
  · rename_i o
    split
    · rename_i xs hx
      right
      symm
      have lp := cut_loop (o := .vl false o) xs.length xs rfl
      refine run_ret (seq_go (set_go (x := .nw (nO xs)) (y := .vl true (nO xs)) (by simp [startE, eVar, gList_IL hx]) rfl (by simp [startE])) (seq_go (r' := [.vl false o, .vl true (nO (trim xs))]) ?_ rfl))
      simpa [sWh, lenS, startE] using lp
    · exact .inl rfl
  · exact .inl rfl
abbrev prcIn : FS := (sPut 2 (eOp gAddA (eIx (eVar 2) (eOp gAddA (eVar 3) (eVar 4))) (eOp gMulA (eIx (eVar 0) (eVar 3)) (eIx (eVar 1) (eVar 4)))) (eOp gAddA (eVar 3) (eVar 4)))
theorem prc_in {o p : O} {xs ys : List Int} (hx : asIL o = some xs) (hy : asIL p = some ys) (hs : smL xs = true) (ht : smL ys = true) {i j N : Nat} (hi : i < xs.length) (hj : j < ys.length) (hN : i + j < N) :
    prcIn [.vl false o, .vl false p, .vl true (nO ((List.range N).map (convG xs ys i j))), VI i, VI j] = .nx [.vl false o, .vl false p, .vl true (nO ((List.range N).map (convG xs ys i (j + 1)))), VI i, VI j] := by
  have e : eIx (eVar 2) (eOp gAddA (eVar 3) (eVar 4)) [.vl false o, .vl false p, .vl true (nO ((List.range N).map (convG xs ys i j))), VI i, VI j] = .ok (.nw (I (convG xs ys i j (i + j)))) := by
    rw [ix_IL (k := (i : Int) + j) (i := i + j) (var_of rfl) (by simp only [see_a]; exact asIL_ls _) (by simp [eVar]) (by omega) (by simpa using hN)]
    simp
  have e0 : eIx (eVar 0) (eVar 3) [.vl false o, .vl false p, .vl true (nO ((List.range N).map (convG xs ys i j))), VI i, VI j] = .ok (.nw (I (co xs i))) := by
    rw [co_lt hi]; exact ix_IL (k := i) (var_of rfl) (by rw [see_a]; exact hx) (by simp [eVar]) rfl hi
  have e1 : eIx (eVar 1) (eVar 4) [.vl false o, .vl false p, .vl true (nO ((List.range N).map (convG xs ys i j))), VI i, VI j] = .ok (.nw (I (co ys j))) := by
    rw [co_lt hj]; exact ix_IL (k := j) (var_of rfl) (by rw [see_a]; exact hy) (by simp [eVar]) rfl hj
  have em := sm_mul (sm_co hs i) (sm_co ht j)
  unfold prcIn
  rw [put_IL (v := convG xs ys i j (i + j) + co xs i * co ys j) (k := (i : Int) + j) (j := i + j) rfl (by rw [eOp_ev, e, eOp_ev, e0, e1]; simp [em]) (by simp [eVar]) (by omega) (by simpa using hN), range_set]
  have e2 : (fun k => if k = i + j then convG xs ys i j (i + j) + co xs i * co ys j else convG xs ys i j k) = convG xs ys i (j + 1) := by
    funext k; rw [convG_step]
  rw [e2]; rfl
theorem imp__law_product : ∀ os : List O, os.length = 2 → M__law_product os = .bad ∨ M__law_product os = runF 5 B__law_product os := by
  intro os h
  unfold M__law_product
  split
  · rename_i o p
    split
    · rename_i xs ys hx hy
      by_cases hl : prcOk xs ys = true
      · right
        rw [if_pos hl]
        symm
        obtain ⟨⟨lx, ly⟩, sx, sy⟩ := prcOk_iff hl
        generalize hN : xs.length + ys.length = N
        have inner : ∀ (i : Nat), i < xs.length → ∀ a : S, ∃ c, sFor (iRng rng1 (aCons (eB gLen (aCons (eVar 1) aNil)) aNil)) (gN 4) prcIn [.vl false o, .vl false p, .vl true (nO ((List.range N).map (convG xs ys i 0))), VI i, a] = .nx [.vl false o, .vl false p, .vl true (nO ((List.range N).map (convG xs ys (i + 1) 0))), VI i, c] := fun i hi a => by
          obtain ⟨r', h1, c, h2⟩ := for_gen (fg := gN 4) (F := prcIn) (g := fun (k : Nat) => intR (k : Int)) (n := ys.length) (r := [.vl false o, .vl false p, .vl true (nO ((List.range N).map (convG xs ys i 0))), VI i, a])
            (fun j r => ∃ a, r = [.vl false o, .vl false p, .vl true (nO ((List.range N).map (convG xs ys i j))), VI i, a]) ⟨a, rfl⟩ (fun j r hj ⟨a, hr⟩ => by
              subst hr
              exact ⟨[.vl false o, .vl false p, .vl true (nO ((List.range N).map (convG xs ys i j))), VI i, VI j], _, by simp [intR], prc_in hx hy sx sy hi hj (by omega), VI j, rfl⟩)
          subst h2
          have ec : (convG xs ys i ys.length) = convG xs ys (i + 1) 0 := funext fun k => convG_next xs ys i k
          rw [ec] at h1
          refine ⟨c, for_go (rng_ok (n := ys.length) ?_ (by omega)) h1⟩
          rw [aCons_ev, len_slot (i := 1) rfl hy]; rfl
        obtain ⟨r', h1, a, c, h2⟩ := for_gen (fg := gN 3) (F := sFor (iRng rng1 (aCons (eB gLen (aCons (eVar 1) aNil)) aNil)) (gN 4) prcIn) (g := fun (k : Nat) => intR (k : Int)) (n := xs.length) (r := [.vl false o, .vl false p, .vl true (nO ((List.range N).map (convG xs ys 0 0))), .un, .un])
          (fun i r => ∃ a c, r = [.vl false o, .vl false p, .vl true (nO ((List.range N).map (convG xs ys i 0))), a, c]) ⟨.un, .un, rfl⟩ (fun i r hi ⟨a, c, hr⟩ => by
            subst hr
            obtain ⟨c', e⟩ := inner i hi c
            exact ⟨[.vl false o, .vl false p, .vl true (nO ((List.range N).map (convG xs ys i 0))), VI i, c], _, by simp [intR], e, VI i, c', rfl⟩)
        subst h2
        have e2 : (List.range N).map (convG xs ys xs.length 0) = (List.range N).map fun k => sumN xs.length (cvt xs ys k) := by
          refine List.map_congr_left fun k _ => ?_
          unfold convG
          rw [if_neg (by omega), Int.add_zero]
        rw [e2] at h1
        have ep : pmul xs ys = trim ((List.range N).map fun k => sumN xs.length (cvt xs ys k)) := by unfold pmul nrm; rw [hN]
        rw [ep]
        unfold B__law_product
        refine run_ret (seq_go (r' := [.vl false o, .vl false p, .vl true (nO ((List.range N).map (convG xs ys 0 0))), .un, .un]) (set_go (x := .nw (nO ((List.range N).map (convG xs ys 0 0)))) ?_ rfl (by simp [startE])) (seq_go (for_go (rng_ok (n := xs.length) ?_ (by omega)) h1) (ret_go (call1 (x := see true (nO ((List.range N).map fun k => sumN xs.length (cvt xs ys k)))) rfl (by rw [see_a]; exact cut_ok (asIL_ls _))))))
        · have e1 : eOp gAddA (eB gLen (aCons (eVar 0) aNil)) (eB gLen (aCons (eVar 1) aNil)) (startE 5 [o, p]) = .ok (.nw (I N)) := by
            rw [op_of (len_slot (i := 0) (w := false) rfl hx) (len_slot (i := 1) (w := false) rfl hy), ← hN, Int.natCast_add]; rfl
          rw [op_of (zero1 _) e1, ra_nO]
          exact zeros_ok rfl (by omega) _ fun k => by simp [convG, sumN]
        · rw [aCons_ev, len_slot (i := 0) rfl hx]; rfl
      · left; rw [if_neg hl]
    · exact .inl rfl
  · exact .inl rfl
theorem imp__law_whole : ∀ os : List O, os.length = 1 → M__law_whole os = .bad ∨ M__law_whole os = runF 1 B__law_whole os := by
  intro os h
  unfold M__law_whole
  split
  · right; simp [runF, startE, B__law_whole, eVar, eAnd, eNot, onB, tyO, isT]
  · exact .inl rfl
theorem imp__law_value : ∀ os : List O, os.length = 2 → M__law_value os = .bad ∨ M__law_value os = runF 4 B__law_value os := by
  intro os h
  unfold M__law_value
  split
  · rename_i o n
    split
    · rename_i xs hx
      by_cases hv : valOk xs n = true
      · right
        rw [if_pos hv]
        symm
        obtain ⟨hl, hb, hn⟩ := valOk_iff hv
        obtain ⟨r', h1, a, h2⟩ := forL_inv (fg := gN 3) (F := (sSet 2 false (eOp gAddA (eOp gMulA (eVar 2) (eVar 1)) (eVar 3)))) (its := (xs.map intR).reverse) (r := [.vl false o, .vl false (I n), VI 0, .un])
          (fun k r => ∃ z, r = [.vl false o, .vl false (I n), VI (pev n (xs.drop (xs.length - k))), z]) ⟨.un, by simp [pev]⟩ (fun k x r hk ⟨z, hr⟩ => by
            subst hr
            have hkl : k < xs.length := by
              have := (List.getElem?_eq_some_iff.mp hk).1
              simpa using this
            have hx2 : x = intR xs[xs.length - 1 - k] := by
              rw [List.getElem?_reverse (by simpa using hkl)] at hk
              simp at hk
              obtain ⟨v, hv, e⟩ := hk
              rw [List.getElem?_eq_getElem (by omega)] at hv
              rw [← e]
              congr 1
              exact (Option.some.inj hv).symm
            subst hx2
            have hd : xs.drop (xs.length - (k + 1)) = xs[xs.length - 1 - k] :: xs.drop (xs.length - k) := by
              rw [show xs.length - (k + 1) = xs.length - 1 - k by omega, List.drop_eq_getElem_cons (by omega)]
              congr 2
              omega
            have hm : gMulA (I (pev n (xs.drop (xs.length - k)))) (I n) = .ok (.nw (I (pev n (xs.drop (xs.length - k)) * n))) := by
              have hb2 : BL 100000 (xs.drop (xs.length - k)) := fun y hy => hb y (List.mem_of_mem_drop hy)
              have hp := pev_lt hn hb2
              have hk2 : (500 + 1) * (xs.drop (xs.length - k)).length ≤ 501 * 1000 := Nat.mul_le_mul_left _ (by rw [List.length_drop]; omega)
              exact gMul_lt 601000 500 (lt_up hp (by omega)) hn (by omega) (by omega) (by omega)
            refine ⟨[.vl false o, .vl false (I n), VI (pev n (xs.drop (xs.length - k))), VI xs[xs.length - 1 - k]], [.vl false o, .vl false (I n), VI (pev n (xs.drop (xs.length - (k + 1)))), VI xs[xs.length - 1 - k]], by simp [intR], ?_, VI xs[xs.length - 1 - k], rfl⟩
            refine set_go (x := .nw (I (pev n (xs.drop (xs.length - (k + 1)))))) ?_ rfl (by simp)
            rw [hd, pev]
            simp [eVar, hm])
        subst h2
        simp only [List.length_reverse, List.length_map, Nat.sub_self, List.drop_zero] at h1
        unfold B__law_value
        exact run_ret (seq_go (r' := [.vl false o, .vl false (I n), VI 0, .un]) (set_go (x := .nw (I 0)) (by simp) rfl (by simp [startE])) (seq_go (for_go (iRev_bw rfl hx) h1) (ret_go (by simp [eVar]))))
      · left; rw [if_neg hv]
    · exact .inl rfl
  · exact .inl rfl
theorem ldivisor_loop (n : Nat) : ∀ (a b : Nat) (x : S), a < n → ∃ y, whl (tOf (eOp gNe (eVar 0) (eC (.int 0)))) (sSeq (sSet 2 false (eOp gMod (eVar 1) (eVar 0))) (sSeq (sSet 1 false (eVar 0)) (sSet 0 false (eVar 2)))) n [VI a, VI b, x] = .nx [VI 0, VI (Nat.gcd a b : Nat), y] := by
  induction n with
  | zero => intro a b x h; omega
  | succ n ih =>
    intro a b x h
    by_cases hb : a = 0
    · subst hb
      exact ⟨x, by rw [whl_f (by simp [eVar])]; simp⟩
    · obtain ⟨y, hy⟩ := ih (b % a) a (VI (b % a : Nat)) (by have := Nat.mod_lt b (Nat.pos_of_ne_zero hb); omega)
      refine ⟨y, ?_⟩
      rw [Nat.gcd_comm, gcd_turn, Nat.gcd_comm] at hy
      rw [whl_t (r' := [VI (b % a : Nat), VI a, VI (b % a : Nat)]) (by simp [eVar]; omega) (by simp [eVar, gMod_ev (show (a : Int) ≠ 0 by omega), fmod_nat])]
      exact hy
theorem imp__law_divisor : ∀ os : List O, os.length = 2 → M__law_divisor os = .bad ∨ M__law_divisor os = runF 3 B__law_divisor os := by
  intro os h
  unfold M__law_divisor
  split
  · rename_i a b
    right
    obtain ⟨y, hy⟩ := ldivisor_loop (a.natAbs + 1) a.natAbs b.natAbs S.un (by omega)
    simp [runF, startE, B__law_divisor, eVar, sWh, slotN, absI_eq] at hy ⊢
    rw [hy]
    simp [gcdI, Int.gcd]
  · exact .inl rfl
theorem imp__law_lowest : ∀ os : List O, os.length = 2 → M__law_lowest os = .bad ∨ M__law_lowest os = runF 3 B__law_lowest os := by
  intro os h
  unfold M__law_lowest
  split
  · rename_i a b
    by_cases hc : b ≠ 0 ∧ small9 b = true
    · right
      rw [if_pos hc]
      obtain ⟨hb, h9⟩ := hc
      have hs := small9_sgcd (a := a) hb h9
      by_cases hn : b < 0
      · have e : sgcd a b = -gcdI a b := if_pos hn
        rw [e] at hs
        have hz : -gcdI a b ≠ 0 := by rw [← e]; exact sgcd_ne hb
        simp [runF, startE, B__law_lowest, eVar, hn, M__law_divisor, eTup, tupR, toDs, gDiv_s9 hz hs, rtop, rbot, e]
      · have e : sgcd a b = gcdI a b := if_neg hn
        rw [e] at hs
        have hz : gcdI a b ≠ 0 := by rw [← e]; exact sgcd_ne hb
        simp [runF, startE, B__law_lowest, eVar, hn, M__law_divisor, eTup, tupR, toDs, gDiv_s9 hz hs, rtop, rbot, e]
    · left; rw [if_neg hc]
  · exact .inl rfl
theorem frac_ok (cc : Int) : ∃ p : Int × Int, M__law_fraction [I cc] = .ok (.fz (fD p)) ∧ p.1.natAbs < 2 ^ 200 ∧ 1 ≤ p.2 ∧ p.2 ≤ 1000 ∧ gcdI p.1 p.2 = 1 := by
  have r1 := fmod_rg (a := cc) (b := 2147483647) (by omega)
  generalize hx : cc.fmod 2147483647 = x at *
  have m1 : gMulA (I x) (I x) = .ok (.nw (I (x * x))) := gMul_lt 31 31 (by omega) (by omega) (by omega) (by omega) (by omega)
  have lx : (x * x + 11).natAbs < 2 ^ 63 := natAbs_add_lt (m := 62) (natAbs_mul_lt (m := 31) (n := 31) (by omega) (by omega) (by omega)) (by decide) (by omega)
  have m2 : gMulA (I (x * x + 11)) (I 48271) = .ok (.nw (I ((x * x + 11) * 48271))) := gMul_lt 63 16 lx (by decide) (by omega) (by omega) (by omega)
  have r2 := fmod_rg (a := (x * x + 11) * 48271) (b := 2147483629) (by omega)
  generalize hy : ((x * x + 11) * 48271).fmod 2147483629 = y at *
  have r3 := fmod_rg (a := y.fdiv 4) (b := 12) (by omega)
  have r4 := fmod_rg (a := y.fdiv 4) (b := 1000) (by omega)
  have r5 := fmod_rg (a := y) (b := 4) (by omega)
  obtain ⟨j, hj⟩ : ∃ j : Nat, y.fmod 4 = j := ⟨(y.fmod 4).toNat, by omega⟩
  have hjl : j < [1, 1, 1 + (y.fdiv 4).fmod 12, 1 + (y.fdiv 4).fmod 1000].length := by simp; omega
  have hb : 1 ≤ [1, 1, 1 + (y.fdiv 4).fmod 12, 1 + (y.fdiv 4).fmod 1000][j] ∧ [1, 1, 1 + (y.fdiv 4).fmod 12, 1 + (y.fdiv 4).fmod 1000][j] ≤ 1000 := by
    have hm : ∀ z ∈ [1, 1, 1 + (y.fdiv 4).fmod 12, 1 + (y.fdiv 4).fmod 1000], 1 ≤ z ∧ z ≤ 1000 := fun z hz => by
      simp only [List.mem_cons, List.not_mem_nil, or_false] at hz
      rcases hz with h | h | h | h <;> omega
    exact hm _ (List.getElem_mem hjl)
  have ei : ∀ r : Env, r[1]? = some (VI y) → eIx (eLst (aCons (eC (.int 1)) (aCons (eC (.int 1)) (aCons (eOp gAddA (eC (.int 1)) (eOp gMod (eOp gDiv (eVar 1) (eC (.int 4))) (eC (.int 12)))) (aCons (eOp gAddA (eC (.int 1)) (eOp gMod (eOp gDiv (eVar 1) (eC (.int 4))) (eC (.int 1000)))) aNil))))) (eOp gMod (eVar 1) (eC (.int 4))) r = .ok (.nw (I [1, 1, 1 + (y.fdiv 4).fmod 12, 1 + (y.fdiv 4).fmod 1000][j])) := fun r hr => by
    have v1 : eVar 1 r = .ok (.nw (I y)) := by rw [var_of hr]; rfl
    have a1 : eOp gAddA (eC (.int 1)) (eOp gMod (eOp gDiv (eVar 1) (eC (.int 4))) (eC (.int 12))) r = .ok (.nw (I (1 + (y.fdiv 4).fmod 12))) := e_add (eC_ev _) (e_mod (e_div v1 (by omega) (by omega)) (by omega))
    have a2 : eOp gAddA (eC (.int 1)) (eOp gMod (eOp gDiv (eVar 1) (eC (.int 4))) (eC (.int 1000))) r = .ok (.nw (I (1 + (y.fdiv 4).fmod 1000))) := e_add (eC_ev _) (e_mod (e_div v1 (by omega) (by omega)) (by omega))
    refine ix_IL (x := .nw (nO [1, 1, 1 + (y.fdiv 4).fmod 12, 1 + (y.fdiv 4).fmod 1000])) (k := y.fmod 4) (i := j) ?_ (by rw [ra_nO]; exact asIL_lst _) (e_mod v1 (by omega)) hj hjl
    simp only [eLst, aCons_ev, eC_ev, a1, a2, res_ok, aNil_ev, ra_nw, er_fz]; rfl
  generalize hbb : [1, 1, 1 + (y.fdiv 4).fmod 12, 1 + (y.fdiv 4).fmod 1000][j] = b at *
  have b0 : b ≠ 0 := by omega
  refine ⟨(rtop (lawNumM cc (10 ^ 60)) b, rbot (lawNumM cc (10 ^ 60)) b), ?_, Nat.lt_of_le_of_lt (rtop_le b0) (num60_lt cc), rbot_pos b0, ?_, r_gcd b0⟩
  · show runF 3 B__law_fraction _ = _
    unfold B__law_fraction
    refine run_ret (seq_go (r' := [.vl false (I cc), VI x, .un]) (set_go (x := .nw (I x)) ?_ rfl (by simp [startE])) (seq_go (r' := [.vl false (I cc), VI y, .un]) (set_go (x := .nw (I y)) ?_ rfl (by simp)) (seq_go (r' := [.vl false (I cc), VI y, VI b]) (set_go (x := .nw (I b)) (ei _ rfl) rfl (by simp)) (ret_go ?_))))
    · rw [← hx]; exact e_mod (show eVar 0 [.vl false (I cc), .un, .un] = .ok (.nw (I cc)) from rfl) (by omega)
    · rw [← hy]
      refine e_mod ?_ (by omega)
      have q1 : eOp gMulA (eVar 1) (eVar 1) [.vl false (I cc), VI x, .un] = .ok (.nw (I (x * x))) := by rw [op_of (x := .nw (I x)) (y := .nw (I x)) rfl rfl]; exact m1
      rw [op_of (e_add q1 (eC_ev _)) (eC_ev _)]; exact m2
    · refine call2 (x := .nw (I (lawNumM cc (10 ^ 60)))) (y := .nw (I b)) (call2 (x := .nw (I cc)) (y := .nw (I (10 ^ 60))) rfl (e60 _) (num_ok p60.1 p60.2)) rfl (lowest_ok b0 (lt_up (m := 11) (by omega) (by omega)))
  · have := rbot_le (a := lawNumM cc (10 ^ 60)) b0
    have := rbot_pos (a := lawNumM cc (10 ^ 60)) b0
    omega
abbrev lwgTurn : FS := (sSeq (sSet 3 false (eOp gAddA (eOp gMulA (eVar 3) (eIx (eIx (eVar 1) (eOp gAddA (eVar 2) (eVar 5))) (eC (.int 1)))) (eOp gMulA (eOp gMulA (eCall M__law_value (aCons (eIx (eVar 0) (eVar 5)) (aCons (eVar 2) aNil))) (eIx (eIx (eVar 1) (eOp gAddA (eVar 2) (eVar 5))) (eC (.int 0)))) (eVar 4)))) (sSet 4 false (eOp gMulA (eVar 4) (eIx (eIx (eVar 1) (eOp gAddA (eVar 2) (eVar 5))) (eC (.int 1))))))
theorem lwg_turn {ls : List (List Int)} {vs : List (Int × Int)} {p : O} {n k : Nat} (hp : IsV p vs) {t s w x y : Int} (hk : k < ls.length) (hn : n + k < vs.length) (hv : vs[n + k] = (x, y)) (hok : valOk ls[k] n = true) (hw : pev (n : Int) ls[k] = w) (ht : t.natAbs < 2 ^ 900000) (hs : s.natAbs < 2 ^ 420000) (hwl : w.natAbs < 2 ^ 50000) (hx : x.natAbs < 2 ^ 50000) (hy : y.natAbs < 2 ^ 50000) :
    lwgTurn [.vl false (.fz (LD ls)), .vl false p, .vl false (I n), VI t, VI s, VI k] = .nx [.vl false (.fz (LD ls)), .vl false p, .vl false (I n), VI (t * y + w * x * s), VI (s * y), VI k] := by
  have iv : ∀ t, eIx (eVar 1) (eOp gAddA (eVar 2) (eVar 5)) [.vl false (.fz (LD ls)), .vl false p, .vl false (I n), VI t, VI s, VI k] = .ok (.nw (.fz (fD (x, y)))) := fun t => by
    rw [ix_V (i := 1) (w := false) (vs := vs) (j := n + k) (k := (n : Int) + k) rfl hp (e_add (a := n) (b := k) rfl rfl) (by omega) hn, hv]
  have ew : eCall M__law_value (aCons (eIx (eVar 0) (eVar 5)) (aCons (eVar 2) aNil)) [.vl false (.fz (LD ls)), .vl false p, .vl false (I n), VI t, VI s, VI k] = .ok (.nw (I w)) := by
    rw [← hw]
    exact call2 (x := .nw (lO ls[k])) (y := .nw (I n)) (ix_L (i := 0) (w := false) (k := k) rfl (.inr rfl) rfl rfl hk) rfl (lvalue_ok (asIL_lst _) hok)
  have m1 : gMulA (I t) (I y) = .ok (.nw (I (t * y))) := gMul_lt 900000 50000 ht hy (by omega) (by omega) (by omega)
  have m2 : gMulA (I w) (I x) = .ok (.nw (I (w * x))) := gMul_lt 50000 50000 hwl hx (by omega) (by omega) (by omega)
  have m3 : gMulA (I (w * x)) (I s) = .ok (.nw (I (w * x * s))) := gMul_lt 100000 420000 (natAbs_mul_lt hwl hx (by omega)) hs (by omega) (by omega) (by omega)
  have m4 : gMulA (I s) (I y) = .ok (.nw (I (s * y))) := gMul_lt 420000 50000 hs hy (by omega) (by omega) (by omega)
  refine seq_go (r' := [.vl false (.fz (LD ls)), .vl false p, .vl false (I n), VI (t * y + w * x * s), VI s, VI k]) (set_go (x := .nw (I (t * y + w * x * s))) ?_ rfl (by simp)) ?_
  · have e1 : eOp gMulA (eVar 3) (eIx (eIx (eVar 1) (eOp gAddA (eVar 2) (eVar 5))) (eC (.int 1))) [.vl false (.fz (LD ls)), .vl false p, .vl false (I n), VI t, VI s, VI k] = .ok (.nw (I (t * y))) := by
      rw [op_of (x := .nw (I t)) rfl (e_tup1 (iv t))]; exact m1
    have e2 : eOp gMulA (eCall M__law_value (aCons (eIx (eVar 0) (eVar 5)) (aCons (eVar 2) aNil))) (eIx (eIx (eVar 1) (eOp gAddA (eVar 2) (eVar 5))) (eC (.int 0))) [.vl false (.fz (LD ls)), .vl false p, .vl false (I n), VI t, VI s, VI k] = .ok (.nw (I (w * x))) := by
      rw [op_of ew (e_tup0 (iv t))]; exact m2
    have e3 := (op_of (g := gMulA) e2 (y := .nw (I s)) (k := eVar 4) rfl).trans m3
    exact e_add e1 e3
  · rw [set_go (x := .nw (I (s * y))) (by rw [op_of (x := .nw (I s)) rfl (e_tup1 (iv _))]; exact m4) rfl (by simp)]; rfl
theorem vAt_get {ls : List (List Int)} {vs : List (Int × Int)} {n k : Nat} (hk : k < ls.length) (hn : n + k < vs.length) (h2 : k < (vAt ls vs n).length) : (vAt ls vs n)[k] = vs[n + k] := by
  simp [vAt]
theorem imp__law_weighed : ∀ os : List O, os.length = 3 → M__law_weighed os = .bad ∨ M__law_weighed os = runF 6 B__law_weighed os := by
  intro os h
  unfold M__law_weighed
  split
  · rename_i d p n
    split
    · rename_i ls vs hd he
      have hd := dLL_eq hd
      subst hd
      have hp := asV_is he
      by_cases hk : wkOk ls vs n = true
      · right
        rw [if_pos hk]
        symm
        obtain ⟨h0, hl, _, hko⟩ := wkOk_iff hk
        obtain ⟨m, hm⟩ : ∃ m : Nat, n = m := ⟨n.toNat, by omega⟩
        subst hm
        rw [Int.toNat_natCast] at hl hko ⊢
        unfold kpOk at hko
        rw [Bool.and_eq_true, Bool.and_eq_true, decide_eq_true_eq] at hko
        obtain ⟨⟨hv, hw⟩, hlv⟩ := hko
        obtain ⟨l1, l8, bw, bv⟩ := wOk_iff hw
        rw [List.length_map] at l1 l8
        obtain ⟨r', h1, z, h2⟩ := for_gen (fg := gN 5) (F := lwgTurn) (g := fun (k : Nat) => intR (k : Int)) (n := ls.length) (r := [.vl false (.fz (LD ls)), .vl false p, .vl false (I m), VI 0, VI 1, .un])
          (fun k r => ∃ a, r = [.vl false (.fz (LD ls)), .vl false p, .vl false (I m), VI (wgh ((ls.map (pev (m : Int))).take k) ((vAt ls vs m).take k) (0, 1)).1, VI (wgh ((ls.map (pev (m : Int))).take k) ((vAt ls vs m).take k) (0, 1)).2, a]) ⟨.un, rfl⟩ (fun k r hk ⟨a, hr⟩ => by
            subst hr
            have hkv : k < (vAt ls vs m).length := by omega
            have bd := wgh_lt (a := 50000) (b := 50000) ((ls.map (pev (m : Int))).take k) ((vAt ls vs m).take k) 50001 1 0 1 (fun y hy => bw y (List.mem_of_mem_take hy)) (fun p hp => bv p (List.mem_of_mem_take hp)) (by decide) (by decide) (by omega)
            have lk : ((ls.map (pev (m : Int))).take k).length ≤ 7 := by rw [List.length_take, List.length_map]; omega
            have m1 : (50000 + 50000 + 1) * ((ls.map (pev (m : Int))).take k).length ≤ (50000 + 50000 + 1) * 7 := Nat.mul_le_mul_left _ lk
            have m2 : 50000 * ((ls.map (pev (m : Int))).take k).length ≤ 50000 * 7 := Nat.mul_le_mul_left _ lk
            have v := bv _ (List.getElem_mem hkv)
            have wk := bw _ (List.getElem_mem (show k < (ls.map (pev (m : Int))).length by rw [List.length_map]; exact hk))
            rw [vAt_get hk (by omega) hkv] at v
            rw [List.getElem_map] at wk
            have hmem := List.all_eq_true.mp hv _ (List.getElem_mem hk)
            refine ⟨[.vl false (.fz (LD ls)), .vl false p, .vl false (I m), VI (wgh ((ls.map (pev (m : Int))).take k) ((vAt ls vs m).take k) (0, 1)).1, VI (wgh ((ls.map (pev (m : Int))).take k) ((vAt ls vs m).take k) (0, 1)).2, VI k], _, by simp [intR], lwg_turn hp (x := (vs[m + k]).1) (y := (vs[m + k]).2) (w := pev (m : Int) ls[k]) hk (by omega) rfl hmem rfl (lt_up bd.1 (by omega)) (lt_up bd.2 (by omega)) wk v.1 v.2, VI k, ?_⟩
            have e := wgh_take (ws := ls.map (pev (m : Int))) (vs := vAt ls vs m) (by rw [List.length_map]; exact l1) (i := k) (by rw [List.length_map]; exact hk) (0, 1)
            rw [e, List.getElem_map, vAt_get hk (by omega) hkv])
        subst h2
        rw [List.take_of_length_le (by rw [List.length_map]; omega), List.take_of_length_le (by omega)] at h1
        unfold B__law_weighed
        refine run_ret (seq_go (r' := [.vl false (.fz (LD ls)), .vl false p, .vl false (I m), VI 0, .un, .un]) (set_go (x := .nw (I 0)) rfl rfl (by simp [startE])) (seq_go (r' := [.vl false (.fz (LD ls)), .vl false p, .vl false (I m), VI 0, VI 1, .un]) (set_go (x := .nw (I 1)) rfl rfl (by simp)) (seq_go (for_go (rng_ok (n := ls.length) ?_ (by omega)) h1) (ret_go (e_tup rfl rfl)))))
        rw [aCons_ev, len_L (i := 0) (w := false) rfl (.inr rfl)]; rfl
      · left; rw [if_neg hk]
    · exact .inl rfl
  · exact .inl rfl
/-! fractions over one bottom -/
structure Cm (D : Int) (a : Nat) (p : Int × Int) : Prop where
  pos : 1 ≤ p.2
  low : gcdI p.1 p.2 = 1
  ex : ∃ A : Int, p.1 * D = A * p.2 ∧ A.natAbs < 2 ^ a
theorem low_dvd {p q D A : Int} (hg : gcdI p q = 1) (h : p * D = A * q) : q ∣ D := by
  have h1 : Int.gcd p q = 1 := by unfold gcdI at hg; omega
  have h2 : q.natAbs ∣ p.natAbs * D.natAbs := by
    rw [← Int.natAbs_mul, h, Int.natAbs_mul]
    exact Nat.dvd_mul_left _ _
  have h3 : Nat.Coprime q.natAbs p.natAbs := by
    rw [Nat.coprime_comm]
    show Nat.gcd p.natAbs q.natAbs = 1
    rw [← Int.gcd_eq_natAbs_gcd_natAbs]; exact h1
  exact Int.natAbs_dvd_natAbs.mp (h3.dvd_of_dvd_mul_left h2)
theorem Cm.sz {D : Int} {a : Nat} {p : Int × Int} (hD : 1 ≤ D) (h : Cm D a p) : p.2 ≤ D ∧ p.1.natAbs < 2 ^ a := by
  obtain ⟨A, e, hA⟩ := h.ex
  have hp := h.pos
  obtain ⟨k, hk⟩ := low_dvd h.low e
  refine ⟨Int.le_of_dvd (by omega) ⟨k, hk⟩, ?_⟩
  have e2 : p.2 * (p.1 * k) = p.2 * A := by rw [hk] at e; grind
  have e3 : p.1 * k = A := Int.eq_of_mul_eq_mul_left (by omega) e2
  have hk0 : k ≠ 0 := fun z => by rw [z] at hk; simp at hk; omega
  rw [← e3, Int.natAbs_mul] at hA
  exact Nat.lt_of_le_of_lt (Nat.le_mul_of_pos_right _ (by omega)) hA
theorem Cm.up {D : Int} {a : Nat} {p : Int × Int} (h : Cm D a p) {e : Int} {c b : Nat} (hc : e.natAbs < 2 ^ c) (hb : a + c ≤ b) : Cm (D * e) b p := by
  obtain ⟨A, e1, hA⟩ := h.ex
  exact ⟨h.pos, h.low, A * e, by grind, natAbs_mul_lt hA hc hb⟩
theorem wgh_lin {D : Int} {a b : Nat} : ∀ (ws : List Int) (vs : List (Int × Int)) (t b0 S : Int) (k : Nat), ws.length = vs.length → BL b ws → (∀ p ∈ vs, Cm D a p) → t * D = S * b0 → 1 ≤ b0 → S.natAbs < 2 ^ k → a + b ≤ k →
    ∃ S' : Int, (wgh ws vs (t, b0)).1 * D = S' * (wgh ws vs (t, b0)).2 ∧ 1 ≤ (wgh ws vs (t, b0)).2 ∧ S'.natAbs < 2 ^ (k + ws.length)
  | [], [], t, b0, S, k, _, _, _, h, h0, hS, _ => ⟨S, h, h0, by simpa using hS⟩
  | w :: ws, v :: vs, t, b0, S, k, hl, hw, hv, h, h0, hS, hk => by
    obtain ⟨A, e, hA⟩ := (hv v (by simp)).ex
    have hp := (hv v (by simp)).pos
    have hb1 : 1 ≤ b0 * v.2 := by
      have := Int.mul_le_mul h0 hp (by omega) (by omega)
      omega
    obtain ⟨S', e1, e2, e3⟩ := wgh_lin ws vs (t * v.2 + w * v.1 * b0) (b0 * v.2) (S + w * A) (k + 1) (by simpa using hl) hw.tail (fun p hp => hv p (by simp [hp])) (by
      have : (t * v.2 + w * v.1 * b0) * D = t * D * v.2 + w * (v.1 * D) * b0 := by grind
      rw [this, h, e]; grind) hb1 (natAbs_add_lt (m := k) hS (natAbs_mul_lt hw.head hA (by omega)) (by omega)) (by omega)
    exact ⟨S', e1, e2, lt_up e3 (by simp only [List.length_cons]; omega)⟩
  | [], _ :: _, _, _, _, _, h, _, _, _, _, _, _ => by simp at h
  | _ :: _, [], _, _, _, _, h, _, _, _, _, _, _ => by simp at h
theorem cm_new {D t b w S : Int} {a : Nat} (hb : 1 ≤ b) (hw : w ≠ 0) (h : t * D = S * b) (hS : S.natAbs < 2 ^ a) : Cm (D * w.natAbs) a (rtop (-t) (b * w), rbot (-t) (b * w)) := by
  have hbw : b * w ≠ 0 := Int.mul_ne_zero (by omega) hw
  have hc := r_cross (-t) (b * w)
  refine ⟨rbot_pos (a := -t) hbw, r_gcd (a := -t) hbw, if 0 < w then -S else S, ?_, by split <;> omega⟩
  show rtop (-t) (b * w) * (D * w.natAbs) = _ * rbot (-t) (b * w)
  generalize rtop (-t) (b * w) = x at hc ⊢
  generalize rbot (-t) (b * w) = y at hc ⊢
  have e : b * (x * w * D) = b * (-S * y) := by
    have q1 : b * (x * w * D) = x * (b * w) * D := by grind
    have q2 : -t * y * D = -(t * D) * y := by grind
    rw [q1, hc, q2, h]; grind
  have e2 := Int.eq_of_mul_eq_mul_left (show b ≠ 0 by omega) e
  by_cases h1 : 0 < w
  · rw [if_pos h1, show (w.natAbs : Int) = w by omega]; grind
  · rw [if_neg h1, show (w.natAbs : Int) = -w by omega]; grind
theorem wgh_scale (c : Int) : ∀ (ws : List Int) (vs : List (Int × Int)) (t b : Int), wgh (ws.map fun x => x * c) vs (t * c, b) = ((wgh ws vs (t, b)).1 * c, (wgh ws vs (t, b)).2)
  | [], _, t, b => by simp [wgh]
  | w :: ws, [], t, b => by simp [wgh]
  | w :: ws, v :: vs, t, b => by
    simp only [List.map_cons, wgh]
    rw [← wgh_scale c ws vs]
    congr 2
    grind
theorem sgcd_scale {a b c : Int} (hb : b ≠ 0) (hc : c ≠ 0) : sgcd (a * c) (b * c) = c * sgcd a b := by
  have hg : gcdI (a * c) (b * c) = c.natAbs * gcdI a b := by
    unfold gcdI
    rw [Int.gcd_mul_right]
    simp [Int.mul_comm]
  unfold sgcd
  rw [hg]
  by_cases h1 : c < 0
  · by_cases h2 : b < 0
    · have : ¬ b * c < 0 := by have := Int.mul_pos_of_neg_of_neg h2 h1; omega
      rw [if_neg this, if_pos h2, show (c.natAbs : Int) = -c by omega]; grind
    · have : b * c < 0 := Int.mul_neg_of_pos_of_neg (by omega) h1
      rw [if_pos this, if_neg h2, show (c.natAbs : Int) = -c by omega]; grind
  · by_cases h2 : b < 0
    · have : b * c < 0 := Int.mul_neg_of_neg_of_pos h2 (by omega)
      rw [if_pos this, if_pos h2, show (c.natAbs : Int) = c by omega]; grind
    · have : ¬ b * c < 0 := by have := Int.mul_pos (show 0 < b by omega) (show 0 < c by omega); omega
      rw [if_neg this, if_neg h2, show (c.natAbs : Int) = c by omega]
theorem r_scale {a b c : Int} (hb : b ≠ 0) (hc : c ≠ 0) : rtop (a * c) (b * c) = rtop a b ∧ rbot (a * c) (b * c) = rbot a b := by
  have hs := sgcd_ne (a := a) hb
  have h1 := rtop_mul (a * c) (b * c)
  have h2 := rbot_mul (a * c) (b * c)
  rw [sgcd_scale hb hc] at h1 h2
  have h3 := rtop_mul a b
  have h4 := rbot_mul a b
  have hcs : c * sgcd a b ≠ 0 := Int.mul_ne_zero hc hs
  constructor
  · exact Int.eq_of_mul_eq_mul_left hcs (by rw [h1]; grind)
  · exact Int.eq_of_mul_eq_mul_left hcs (by rw [h2]; grind)
/-! the row -/
def lastQ (ls : List (List Int)) : List Int := ls.getD (ls.length - 1) []
def nx (P : List (List Int)) (roots : List Int) (dr : Nat → Int × Int) (m : Nat) (vs : List (Int × Int)) : Int × Int :=
  if (m : Int) - P.length + 1 < 0 ∨ ((m : Int) - P.length + 1) ∈ roots then dr m else
    (rtop (-(wgh (P.dropLast.map (pev ((m : Int) - P.length + 1))) (vAt P.dropLast vs (m + 1 - P.length)) (0, 1)).1) ((wgh (P.dropLast.map (pev ((m : Int) - P.length + 1))) (vAt P.dropLast vs (m + 1 - P.length)) (0, 1)).2 * pev ((m : Int) - P.length + 1) (lastQ P)),
      rbot (-(wgh (P.dropLast.map (pev ((m : Int) - P.length + 1))) (vAt P.dropLast vs (m + 1 - P.length)) (0, 1)).1) ((wgh (P.dropLast.map (pev ((m : Int) - P.length + 1))) (vAt P.dropLast vs (m + 1 - P.length)) (0, 1)).2 * pev ((m : Int) - P.length + 1) (lastQ P)))
def sq (P : List (List Int)) (roots : List Int) (dr : Nat → Int × Int) : Nat → List (Int × Int)
  | 0 => []
  | k + 1 => sq P roots dr k ++ [nx P roots dr k (sq P roots dr k)]
theorem sq_length (P : List (List Int)) (roots : List Int) (dr : Nat → Int × Int) : ∀ k, (sq P roots dr k).length = k
  | 0 => rfl
  | k + 1 => by simp [sq, sq_length P roots dr k]
theorem sq_take (P : List (List Int)) (roots : List Int) (dr : Nat → Int × Int) (k : Nat) : ∀ m, k ≤ m → (sq P roots dr m).take k = sq P roots dr k
  | 0, h => by
    have : k = 0 := by omega
    subst this; rfl
  | m + 1, h => by
    by_cases e : k = m + 1
    · subst e
      exact List.take_of_length_le (by rw [sq_length]; omega)
    · rw [sq, List.take_append_of_le_length (by rw [sq_length]; omega), sq_take P roots dr k m (by omega)]
theorem sq_get (P : List (List Int)) (roots : List Int) (dr : Nat → Int × Int) {k m : Nat} (h : k < m) : (sq P roots dr m)[k]'(by rw [sq_length]; exact h) = nx P roots dr k (sq P roots dr k) := by
  have e := sq_take P roots dr (k + 1) m h
  have h2 : ((sq P roots dr m).take (k + 1))[k]'(by rw [List.length_take, sq_length]; omega) = (sq P roots dr m)[k]'(by rw [sq_length]; exact h) := by simp
  rw [← h2]
  simp only [e]
  simp [sq, sq_length]
/-- what is known of the parts, the roots and the drawn ones -/
structure Par (P : List (List Int)) (roots : List Int) (dr : Nat → Int × Int) (K c : Nat) : Prop where
  p1 : 1 ≤ P.length
  p5 : P.length ≤ 5
  sh : ∀ l ∈ P, trim l = l ∧ l.length ≤ 3 ∧ BL 60 l
  r3 : roots.length ≤ 3
  rr : ∀ x ∈ roots, 0 ≤ x ∧ x < 60
  d : ∀ i, (dr i).1.natAbs < 2 ^ 200 ∧ 1 ≤ (dr i).2 ∧ (dr i).2 ≤ 1000 ∧ gcdI (dr i).1 (dr i).2 = 1
  w : ∀ n : Nat, n ≤ K → pev (n : Int) (lastQ P) ≠ 0 ∧ (pev (n : Int) (lastQ P)).natAbs < 2 ^ c
  cl : sgn1 (lastQ P) = true
  c10 : 10 ≤ c
  c31 : c ≤ 31
  cK : c * K ≤ 1100
  K100 : K ≤ 100
variable {P : List (List Int)} {roots : List Int} {dr : Nat → Int × Int} {K c : Nat}
theorem ws_lt {l : List Int} {n : Nat} (hn : n ≤ 100) (hl : l.length ≤ 3) (hb : BL 60 l) : (pev (n : Int) l).natAbs < 2 ^ 84 := by
  have := pev_lt (c := 7) (n := (n : Int)) (by omega) hb
  have h2 : (7 + 1) * l.length ≤ (7 + 1) * 3 := Nat.mul_le_mul_left _ hl
  exact lt_up this (by omega)
theorem win_length (P : List (List Int)) {vs : List (Int × Int)} {n : Nat} (h : n + P.length ≤ vs.length) : (vAt P vs n).length = P.length := by
  unfold vAt
  rw [List.length_take, List.length_drop]; omega
theorem sq_inv (h : Par P roots dr K c) : ∀ k : Nat, k ≤ K → ∃ D : Int, 1 ≤ D ∧ D.natAbs < 2 ^ (c * k + 1) ∧ ∀ p ∈ sq P roots dr k, Cm D (300 + 110 * k) p
  | 0, _ => ⟨1, by omega, by simp, fun _ h => nomatch h⟩
  | k + 1, hk => by
    obtain ⟨D, hD, bD, hin⟩ := sq_inv h k (by omega)
    have hc10 := h.c10
    have hcK := h.cK
    have h31 := h.c31
    have h100 := h.K100
    have ck : c * k + c ≤ 1100 := by
      have : c * (k + 1) ≤ c * K := Nat.mul_le_mul_left _ hk
      rw [Nat.mul_add, Nat.mul_one] at this; omega
    have c31k : c * k ≤ 31 * k := Nat.mul_le_mul_right k h31
    have e1 : c * (k + 1) + 1 = c * k + 1 + c := by rw [Nat.mul_add, Nat.mul_one]; omega
    have nin : ∀ {E : Int} {q : Int × Int}, (∀ p ∈ sq P roots dr k, Cm E (300 + 110 * (k + 1)) p) → Cm E (300 + 110 * (k + 1)) q → nx P roots dr k (sq P roots dr k) = q → ∀ p ∈ sq P roots dr (k + 1), Cm E (300 + 110 * (k + 1)) p := fun {E q} h1 h2 h3 p hp => by
      rcases List.mem_append.mp hp with h4 | h4
      · exact h1 p h4
      · have : p = nx P roots dr k (sq P roots dr k) := by simpa using h4
        rw [this, h3]; exact h2
    by_cases hn : (k : Int) - P.length + 1 < 0 ∨ ((k : Int) - P.length + 1) ∈ roots
    · obtain ⟨d1, d2, d3, d4⟩ := h.d k
      have hd : (dr k).2.natAbs < 2 ^ c := lt_up (m := 10) (by omega) hc10
      refine ⟨D * (dr k).2, ?_, by rw [e1]; exact natAbs_mul_lt bD hd (Nat.le_refl _), nin (fun p hp => (hin p hp).up hd (by omega)) (q := dr k) ⟨d2, d4, (dr k).1 * D, by grind, natAbs_mul_lt d1 bD (by omega)⟩ (by unfold nx; rw [if_pos hn])⟩
      have := Int.mul_le_mul hD d2 (by omega) (by omega)
      omega
    · have hp1 := h.p1
      have hp5 := h.p5
      obtain ⟨n, hn2⟩ : ∃ n : Nat, (k : Int) - P.length + 1 = n := ⟨((k : Int) - P.length + 1).toNat, by omega⟩
      have hkn : k + 1 - P.length = n := by omega
      obtain ⟨w1, w2⟩ := h.w n (by omega)
      have lD : P.dropLast.length = P.length - 1 := List.length_dropLast
      have lw := win_length P.dropLast (vs := sq P roots dr k) (n := n) (by rw [sq_length, lD]; omega)
      have bw : BL 84 (P.dropLast.map (pev (n : Int))) := fun y hy => by
        obtain ⟨l, hl, rfl⟩ := List.mem_map.mp hy
        obtain ⟨_, g1, g2⟩ := h.sh l ((List.dropLast_sublist P).subset hl)
        exact ws_lt (by omega) g1 g2
      obtain ⟨S, s1, s2, s3⟩ := wgh_lin (D := D) (a := 300 + 110 * k) (b := 84) (P.dropLast.map (pev (n : Int))) (vAt P.dropLast (sq P roots dr k) n) 0 1 0 (300 + 110 * k + 84) (by rw [List.length_map, lw]) bw (fun p hp => hin p (List.mem_of_mem_drop (List.mem_of_mem_take hp))) (by simp) (by omega) (by simp; exact Nat.two_pow_pos _) (by omega)
      refine ⟨D * (pev (n : Int) (lastQ P)).natAbs, ?_, by rw [e1]; exact natAbs_mul_lt bD (by simpa using w2) (Nat.le_refl _), nin (fun p hp => (hin p hp).up (c := c) (by simpa using w2) (by omega)) (cm_new (a := 300 + 110 * (k + 1)) s2 w1 s1 (lt_up s3 (by rw [List.length_map, lD]; omega))) ?_⟩
      · have := Int.mul_le_mul hD (show 1 ≤ ((pev (n : Int) (lastQ P)).natAbs : Int) by omega) (by omega) (by omega)
        omega
      · unfold nx
        rw [if_neg hn, hn2, hkn]
theorem sq_sz (h : Par P roots dr K c) {k : Nat} (hk : k ≤ K) : ∀ p ∈ sq P roots dr k, 1 ≤ p.2 ∧ gcdI p.1 p.2 = 1 ∧ p.1.natAbs < 2 ^ 12000 ∧ p.2.natAbs < 2 ^ 1101 := fun p hp => by
  obtain ⟨D, hD, bD, hin⟩ := sq_inv h k hk
  have q := hin p hp
  obtain ⟨q1, q2⟩ := q.sz hD
  have h100 := h.K100
  have : c * k ≤ c * K := Nat.mul_le_mul_left _ hk
  have hcK := h.cK
  have := q.pos
  exact ⟨q.pos, q.low, lt_up q2 (by omega), Nat.lt_of_le_of_lt (by omega) (lt_up bD (show c * k + 1 ≤ 1101 by omega))⟩
/-! the rule: all parts times n - root -/
def CnR (n : Int) : List Int → Int
  | [] => 1
  | x :: xs => (n - x) * CnR n xs
def rl (P : List (List Int)) : List Int → List (List Int)
  | [] => P
  | x :: xs => rl (P.map fun p => pmul p [-x, 1]) xs
theorem rl_length : ∀ (roots : List Int) (P : List (List Int)), (rl P roots).length = P.length
  | [], _ => rfl
  | x :: xs, P => by rw [rl, rl_length xs, List.length_map]
theorem pev_lin (n x : Int) : pev n [-x, 1] = n - x := by simp [pev]; omega
theorem rl_pev (n : Int) : ∀ (roots : List Int) (P : List (List Int)), (rl P roots).map (pev n) = (P.map (pev n)).map (fun w => w * CnR n roots)
  | [], P => by simp [rl, CnR]
  | x :: xs, P => by
    rw [rl, rl_pev n xs, List.map_map, List.map_map, List.map_map]
    refine List.map_congr_left fun p _ => ?_
    simp only [Function.comp, pev_pmul, pev_lin, CnR]
    grind
theorem CnR_zero {n : Int} : ∀ {roots : List Int}, n ∈ roots → CnR n roots = 0
  | x :: xs, h => by
    rcases List.mem_cons.mp h with h | h
    · subst h; simp [CnR]
    · rw [CnR, CnR_zero h, Int.mul_zero]
theorem CnR_ne {n : Int} : ∀ {roots : List Int}, n ∉ roots → CnR n roots ≠ 0
  | [], _ => by simp [CnR]
  | x :: xs, h => by
    rw [List.mem_cons, not_or] at h
    rw [CnR]
    exact Int.mul_ne_zero (by omega) (CnR_ne h.2)
theorem CnR_lt {n : Nat} (hn : n ≤ 200) : ∀ {roots : List Int}, (∀ x ∈ roots, 0 ≤ x ∧ x < 60) → (CnR n roots).natAbs < 2 ^ (1 + 8 * roots.length)
  | [], _ => by simp [CnR]
  | x :: xs, h => by
    have ih := CnR_lt hn (roots := xs) fun y hy => h y (List.mem_cons_of_mem _ hy)
    have hx := h x List.mem_cons_self
    rw [CnR]
    exact natAbs_mul_lt (m := 8) (by omega) ih (by simp only [List.length_cons]; omega)
/-- shape of the rule -/
structure Rs (m : Nat) (R : List (List Int)) : Prop where
  t : ∀ l ∈ R, trim l = l ∧ l.length ≤ 3 + m ∧ BL (60 + 20 * m) l
  n : lastQ R ≠ []
theorem lastQ_map {R : List (List Int)} (f : List Int → List Int) (h : 1 ≤ R.length) : lastQ (R.map f) = f (lastQ R) := by
  unfold lastQ
  rw [List.length_map, getD_lt (by rw [List.length_map]; omega), getD_lt (by omega), List.getElem_map]
theorem lin_trim (x : Int) : trim [-x, 1] = [-x, 1] := trim_snoc [-x] (by omega)
theorem lin_lt {x : Int} (h : 0 ≤ x ∧ x < 60) : BL 7 [-x, 1] := fun z hz => by
  have : z = -x ∨ z = 1 := by simpa using hz
  rcases this with e | e <;> omega
theorem rl_sh : ∀ (roots : List Int) (m : Nat) (R : List (List Int)), 1 ≤ R.length → m + roots.length ≤ 5 → (∀ x ∈ roots, 0 ≤ x ∧ x < 60) → Rs m R → Rs (m + roots.length) (rl R roots)
  | [], m, R, _, _, _, h => h
  | x :: xs, m, R, h1, hm, hx, h => by
    simp only [List.length_cons] at hm
    have := rl_sh xs (m + 1) (R.map fun p => pmul p [-x, 1]) (by rw [List.length_map]; exact h1) (by omega) (fun y hy => hx y (List.mem_cons_of_mem _ hy)) ⟨fun l hl => by
      obtain ⟨p, hp, rfl⟩ := List.mem_map.mp hl
      obtain ⟨g1, g2, g3⟩ := h.t p hp
      refine ⟨trim_pmul _ _, ?_, (pmul_lt (n := 8) g3 (lin_lt (hx x List.mem_cons_self)) (by omega)).up (by omega)⟩
      by_cases hp0 : 0 < p.length
      · rw [pmul_length g1 (lin_trim x) hp0 (by simp)]; simp; omega
      · have : p = [] := List.length_eq_zero_iff.mp (by omega)
        subst this
        have := pmul_len [] [-x, 1]
        simp at this; omega, by
      rw [lastQ_map _ h1]
      have hl := h.n
      have hm : lastQ R ∈ R := getD_mem (by omega)
      obtain ⟨g1, _, _⟩ := h.t _ hm
      intro z
      have hp := List.length_pos_iff.mpr hl
      have := pmul_length g1 (lin_trim x) hp (by simp)
      rw [z] at this
      simp at this⟩
    rw [show m + (x :: xs).length = m + 1 + xs.length by simp only [List.length_cons]; omega]
    exact this
/-! clear from behind the roots on -/
def Sg (s : Int) (l : List Int) : Prop := 0 < s * co l 0 ∧ ∀ k, 0 ≤ s * co l k
theorem Sg_of {l : List Int} (h : sgn1 l = true) : ∃ s : Int, (s = 1 ∨ s = -1) ∧ Sg s l := by
  obtain ⟨x, t, e, h0, h1⟩ := sgn1_iff.mp h
  subst e
  have hm : ∀ k, co (x :: t) k = 0 ∨ co (x :: t) k ∈ x :: t := fun k => by
    by_cases hk : k < (x :: t).length
    · right; rw [co_lt hk]; exact List.getElem_mem hk
    · left; exact co_ge (by omega)
  have c0 : co (x :: t) 0 = x := by rw [co_lt (by simp)]; rfl
  rcases h1 with h1 | h1
  · refine ⟨1, .inl rfl, by rw [c0]; have := h1 x (by simp); omega, fun k => ?_⟩
    rcases hm k with h | h
    · rw [h]; omega
    · have := h1 _ h; omega
  · refine ⟨-1, .inr rfl, by rw [c0]; have := h1 x (by simp); omega, fun k => ?_⟩
    rcases hm k with h | h
    · rw [h]; omega
    · have := h1 _ h; omega
theorem Sg_to {l : List Int} {s : Int} (hs : s = 1 ∨ s = -1) (h : Sg s l) : sgn1 l = true := by
  cases l with
  | nil => have := h.1; rw [co_nil] at this; simp at this
  | cons x t =>
    have c0 : co (x :: t) 0 = x := by rw [co_lt (by simp)]; rfl
    have h0 := h.1
    rw [c0] at h0
    refine sgn1_iff.mpr ⟨x, t, rfl, fun z => by rw [z] at h0; simp at h0, ?_⟩
    have hk : ∀ y ∈ x :: t, 0 ≤ s * y := fun y hy => by
      obtain ⟨i, hi, e⟩ := List.mem_iff_getElem.mp hy
      have := h.2 i
      rwa [co_lt hi, e] at this
    rcases hs with e | e
    · subst e; exact .inl fun y hy => by have := hk y hy; omega
    · subst e; exact .inr fun y hy => by have := hk y hy; omega
theorem Sg_mul {s : Int} {a b : List Int} (ha : Sg s a) (hb : Sg 1 b) : Sg s (pmul a b) := by
  have key : ∀ k, s * co (pmul a b) k = sumN (k + 1) fun i => (s * co a i) * (1 * co b (k - i)) := fun k => by
    rw [co_pmulc, mulc_cv, cv, ← sumN_mul]
    refine sumN_congr fun i _ => by grind
  have nn : ∀ (f : Nat → Int) (n : Nat), (∀ i, 0 ≤ f i) → 0 ≤ sumN n f := fun f n hf => by
    induction n with
    | zero => exact Int.le_refl _
    | succ n ih => rw [sumN]; have := hf n; omega
  constructor
  · rw [key]
    show 0 < 0 + _
    have := Int.mul_pos ha.1 hb.1
    simpa using this
  · intro k
    rw [key]
    exact nn _ _ fun i => Int.mul_nonneg (ha.2 i) (hb.2 _)
theorem pshift_mul (M : Int) (a b : List Int) (k : Nat) : co (pshift M (pmul a b)) k = co (pmul (pshift M a) (pshift M b)) k :=
  co_of_pev 0 (fun n _ => by rw [pev_pshift, pev_pmul, pev_pmul, pev_pshift, pev_pshift]) k
theorem rl_clear {M s : Int} (hs : s = 1 ∨ s = -1) : ∀ (roots : List Int) (R : List (List Int)), 1 ≤ R.length → (∀ x ∈ roots, x < M) → Sg s (pshift M (lastQ R)) → Sg s (pshift M (lastQ (rl R roots)))
  | [], _, _, _, h => h
  | x :: xs, R, h1, hx, h => by
    refine rl_clear hs xs _ (by rw [List.length_map]; exact h1) (fun y hy => hx y (List.mem_cons_of_mem _ hy)) ?_
    rw [lastQ_map _ h1]
    have hlin : Sg 1 (pshift M [-x, 1]) := by
      have hx := hx x List.mem_cons_self
      have e : ∀ k, co (pshift M [-x, 1]) k = co [M - x, 1] k := co_of_pev 0 fun n _ => by rw [pev_pshift]; simp [pev]; omega
      constructor
      · rw [e]; show 0 < 1 * (M - x); omega
      · intro k
        rw [e]
        match k with
        | 0 => show 0 ≤ 1 * (M - x); omega
        | 1 => show (0 : Int) ≤ 1 * 1; omega
        | k + 2 => rw [co_ge (by simp)]; omega
    have := Sg_mul h hlin
    exact ⟨by rw [pshift_mul]; exact this.1, fun k => by rw [pshift_mul]; exact this.2 k⟩
theorem rl_reach {R : List (List Int)} {roots : List Int} {M : Nat} (h1 : 1 ≤ R.length) (hM : M ≤ 60) (hx : ∀ x ∈ roots, x < M) (hc : sgn1 (lastQ R) = true) : ∃ m : Nat, rch (lastQ (rl R roots)) = some m ∧ m ≤ M := by
  have hc2 : sgn1 (pshift (M : Int) (lastQ R)) = true := sgn1_up (a := 0) (by rw [pshift_zero]; exact hc) (by omega)
  obtain ⟨s, hs, hg⟩ := Sg_of hc2
  have h2 := Sg_to hs (rl_clear hs roots R h1 hx hg)
  cases hr : rch (lastQ (rl R roots)) with
  | none => rw [rch_no hr (by omega : M < 61)] at h2; cases h2
  | some m =>
    obtain ⟨m1, m2, m3⟩ := rch_is hr
    refine ⟨m, rfl, ?_⟩
    by_cases h : m ≤ M
    · exact h
    · rw [m3 M (by omega)] at h2; cases h2
/-! the values keep the rule -/
theorem win_snoc {P : List (List Int)} {vs : List (Int × Int)} {n : Nat} (h1 : 1 ≤ P.length) (h : n + P.length ≤ vs.length) : vAt P vs n = vAt P.dropLast vs n ++ [vs[n + (P.length - 1)]'(by omega)] := by
  unfold vAt
  rw [List.length_dropLast]
  have e : (vs.drop n).take (P.length - 1 + 1) = (vs.drop n).take (P.length - 1) ++ [(vs.drop n)[P.length - 1]'(by rw [List.length_drop]; omega)] := List.take_succ_eq_append_getElem (by rw [List.length_drop]; omega)
  rw [show P.length - 1 + 1 = P.length by omega] at e
  rw [e]
  simp
theorem map_snoc {P : List (List Int)} (h1 : 1 ≤ P.length) (f : List Int → Int) : P.map f = P.dropLast.map f ++ [f (lastQ P)] := by
  have hne : P ≠ [] := fun z => by rw [z] at h1; simp at h1
  conv => lhs; rw [← List.dropLast_concat_getLast hne]
  rw [List.map_append]
  congr 2
  unfold lastQ
  rw [getD_lt (by omega), List.getLast_eq_getElem]
  rfl
theorem vAt_take {P : List (List Int)} {vs : List (Int × Int)} {n m : Nat} (h : n + P.length ≤ m) : vAt P (vs.take m) n = vAt P vs n := by
  unfold vAt
  rw [List.drop_take, List.take_take, Nat.min_eq_left (by omega)]
theorem top_zero (h : Par P roots dr K c) {k n : Nat} (hk : k ≤ K) (hn : n + P.length ≤ k) (hr : (n : Int) ∉ roots) : (wgh (P.map (pev (n : Int))) (vAt P (sq P roots dr k) n) (0, 1)).1 = 0 := by
  have h1 := h.p1
  have hlen := sq_length P roots dr k
  rw [map_snoc h1, win_snoc h1 (by rw [hlen]; exact hn), sq_get P roots dr (show n + (P.length - 1) < k by omega)]
  have lD : P.dropLast.length = P.length - 1 := List.length_dropLast
  rw [wgh_snoc _ _ _ _ _ (by rw [List.length_map, win_length P.dropLast (by rw [hlen, lD]; omega)])]
  have e1 : ((n + (P.length - 1) : Nat) : Int) - P.length + 1 = n := by omega
  have e2 : n + (P.length - 1) + 1 - P.length = n := by omega
  have e3 : vAt P.dropLast (sq P roots dr (n + (P.length - 1))) n = vAt P.dropLast (sq P roots dr k) n := by
    rw [← sq_take P roots dr (n + (P.length - 1)) k (by omega), vAt_take (by rw [lD]; omega)]
  have hnx : nx P roots dr (n + (P.length - 1)) (sq P roots dr (n + (P.length - 1))) = (rtop (-(wgh (P.dropLast.map (pev (n : Int))) (vAt P.dropLast (sq P roots dr k) n) (0, 1)).1) ((wgh (P.dropLast.map (pev (n : Int))) (vAt P.dropLast (sq P roots dr k) n) (0, 1)).2 * pev (n : Int) (lastQ P)),
      rbot (-(wgh (P.dropLast.map (pev (n : Int))) (vAt P.dropLast (sq P roots dr k) n) (0, 1)).1) ((wgh (P.dropLast.map (pev (n : Int))) (vAt P.dropLast (sq P roots dr k) n) (0, 1)).2 * pev (n : Int) (lastQ P))) := by
    unfold nx
    rw [e1, e2, e3, if_neg (by rw [not_or]; exact ⟨by omega, hr⟩)]
  rw [hnx]
  generalize wgh (P.dropLast.map (pev (n : Int))) (vAt P.dropLast (sq P roots dr k) n) (0, 1) = tb
  obtain ⟨t, b⟩ := tb
  have hc := r_cross (-t) (b * pev (n : Int) (lastQ P))
  simp only at hc ⊢
  grind
theorem sq_kept (h : Par P roots dr K c) {k n : Nat} (hk : k ≤ K) (hn : n + P.length ≤ k) : kept (rl P roots) (sq P roots dr k) n = true := by
  unfold kept
  rw [rl_pev]
  have e : vAt (rl P roots) (sq P roots dr k) n = vAt P (sq P roots dr k) n := by unfold vAt; rw [rl_length]
  have := wgh_scale (CnR (n : Int) roots) (P.map (pev (n : Int))) (vAt P (sq P roots dr k) n) 0 1
  rw [Int.zero_mul] at this
  rw [e, this]
  by_cases hr : (n : Int) ∈ roots
  · simp [CnR_zero hr]
  · simp [top_zero h hk hn hr]
/-- the rule's shape, from the parts -/
theorem par_rs (h : Par P roots dr K c) : Rs (0 + roots.length) (rl P roots) := by
  have h1 := h.p1
  refine rl_sh roots 0 P h1 (by have := h.r3; omega) h.rr ⟨fun l hl => h.sh l hl, fun z => ?_⟩
  have := h.cl
  rw [z] at this
  cases this
theorem rs_ok {m : Nat} {R : List (List Int)} (h1 : 1 ≤ R.length) (h : Rs m R) : okRule R = true := okRule_iff.mpr ⟨h1, h.n, fun p hp => (h.t p hp).1⟩
theorem par_kp (h : Par P roots dr K c) {k n : Nat} (hk : k ≤ K) (hn : n + P.length ≤ k) : kpOk (rl P roots) (sq P roots dr k) n = true := by
  have hs := par_rs h
  have h3 := h.r3
  have h5 := h.p5
  have h100 := h.K100
  have hlen := sq_length P roots dr k
  have lv := win_length (rl P roots) (vs := sq P roots dr k) (n := n) (by rw [hlen, rl_length]; exact hn)
  have bp : BL 300 ((rl P roots).map (pev (n : Int))) := fun y hy => by
    obtain ⟨l, hl, rfl⟩ := List.mem_map.mp hy
    obtain ⟨_, l8, bl⟩ := hs.t l hl
    have := pev_lt (c := 7) (n := (n : Int)) (by omega) bl
    have h2 : (7 + 1) * l.length ≤ (7 + 1) * 6 := Nat.mul_le_mul_left _ (by omega)
    exact lt_up this (by omega)
  have hvA : ∀ p ∈ vAt (rl P roots) (sq P roots dr k) n, p.1.natAbs < 2 ^ 12000 ∧ p.2.natAbs < 2 ^ 12000 := fun p hp => by
    obtain ⟨_, _, q1, q2⟩ := sq_sz h hk p (List.mem_of_mem_drop (List.mem_of_mem_take hp))
    exact ⟨q1, lt_up q2 (by omega)⟩
  unfold kpOk
  rw [decide_eq_true (show (sq P roots dr k).length ≤ 10000 by rw [hlen]; omega), wOk_of 300 12000 (by omega) (by omega) (by rw [List.length_map, lv]) (by rw [List.length_map, rl_length]; omega) bp hvA]
  rw [List.all_eq_true.mpr fun l hl => by
    obtain ⟨_, l8, bl⟩ := hs.t l hl
    exact valOk_of (60 + 20 * (0 + roots.length)) (by omega) (by omega) (by omega) bl (by omega)]
  rfl
/-! first ones looked at -/
theorem first_ok {R : List (List Int)} {vs : List (Int × Int)} {m : Nat} (hk : okRule R = true) (hp : 0 < R.length) (hr : rcOk (R[R.length - 1]'(by omega)) = true) (hm : rch (R[R.length - 1]'(by omega)) = some m) (hl : R.length - 1 + m ≤ vs.length) (hv : vs.length ≤ 1000)
    (hkp : ∀ n : Nat, n + R.length ≤ vs.length → kpOk R vs n = true ∧ kept R vs n = true) : M_look_at_first [.fz (LD R), .fz (VD vs)] = .ok (.fz .non) := by
  have st : startE 3 [.fz (LD R), .fz (VD vs)] = [.vl false (.fz (LD R)), .vl false (.fz (VD vs)), .un] := rfl
  have eN : eCallZ M_need_of (aCons (eVar 0) aNil) [.vl false (.fz (LD R)), .vl false (.fz (VD vs)), .un] = .ok (.nw (I (R.length - 1 + m))) := callZ1 (x := .nw (.fz (LD R))) rfl (need_some hk hp hr hm) rfl
  have eO : eCallZ M_order_of (aCons (eVar 0) aNil) [.vl false (.fz (LD R)), .vl false (.fz (VD vs)), .un] = .ok (.nw (I (R.length - 1))) := callZ1 (x := .nw (.fz (LD R))) rfl (order_ok hk) rfl
  have eL : eB gLen (aCons (eVar 1) aNil) [.vl false (.fz (LD R)), .vl false (.fz (VD vs)), .un] = .ok (.nw (I vs.length)) := len_VD rfl
  obtain ⟨r', hf, z, er'⟩ := for_gen (fg := gN 2) (F := sIf (tNotD (tOf (eCallZ M_keeps (aCons (eVar 0) (aCons (eVar 1) (aCons (eVar 2) aNil)))))) sDead sNil) (g := fun (k : Nat) => intR (k : Int)) (n := vs.length - (R.length - 1)) (r := [.vl false (.fz (LD R)), .vl false (.fz (VD vs)), .un])
    (fun k r => ∃ z, r = [.vl false (.fz (LD R)), .vl false (.fz (VD vs)), z]) ⟨.un, rfl⟩ (fun k r hkk ⟨z, hr⟩ => by
      subst hr
      obtain ⟨q1, q2⟩ := hkp k (by omega)
      exact ⟨[.vl false (.fz (LD R)), .vl false (.fz (VD vs)), VI k], [.vl false (.fz (LD R)), .vl false (.fz (VD vs)), VI k], by simp [intR], if_f (bF (callZ3 (x := .nw (.fz (LD R))) (y := .nw (.fz (VD vs))) (z := .nw (I k)) rfl rfl rfl (by show M_keeps [.fz (LD R), .fz (VD vs), I k] = _; rw [keeps_ok hk (by omega) q1, q2]) rfl)) rfl, VI k, rfl⟩)
  show runF 3 B_look_at_first _ = _
  unfold B_look_at_first
  refine run_nx (r' := r') ?_
  rw [st]
  refine seq_go (if_f (by rw [t_lt eL eN, decide_eq_false (by omega)]) rfl) (for_go (rng_ok (n := vs.length - (R.length - 1)) ?_ (by omega)) hf)
  rw [aCons_ev, e_sub eL eO, res_ok, show (vs.length : Int) - (R.length - 1) = ((vs.length - (R.length - 1) : Nat) : Int) by omega]; rfl
theorem cut_butlast {α : Type} (xs : List α) : cutL xs none (some (-1)) = xs.dropLast := by
  have h := HT.clip_eq (-1) xs.length xs.length
  rw [if_pos (by omega)] at h
  have e : HT.sIx xs.length xs.length (some (-1)) = xs.length - 1 := by omega
  unfold cutL
  rw [HT.sIx_none, e, List.drop_zero, Nat.sub_zero, List.dropLast_eq_take]
/-- the next one, as the rule tells it -/
theorem next_ok (h : Par P roots dr K c) {k : Nat} (hk : k < K) (hn : P.length ≤ k + 1) (hr : ∀ x ∈ roots, x < (k : Int) - P.length + 1) {ov : O} (hov : IsV ov (sq P roots dr k)) : M_next_one [.fz (LD (rl P roots)), ov] = .ok (.fz (fD (nx P roots dr k (sq P roots dr k)))) := by
  have h1 := h.p1
  have h5 := h.p5
  have h3 := h.r3
  have h100 := h.K100
  have hs := par_rs h
  have hlen := sq_length P roots dr k
  obtain ⟨n, hn2⟩ : ∃ n : Nat, (k : Int) - P.length + 1 = n := ⟨((k : Int) - P.length + 1).toNat, by omega⟩
  have hkn : k + 1 - P.length = n := by omega
  have hok := rs_ok (by rw [rl_length]; exact h1) hs
  have hnr : (n : Int) ∉ roots := fun hm => by have := hr _ hm; omega
  have hC := CnR_ne hnr
  have lR := rl_length roots P
  generalize hRR : rl P roots = R at *
  have eP : R.map (pev (n : Int)) = (P.map (pev (n : Int))).map (fun w => w * CnR n roots) := by rw [← hRR]; exact rl_pev _ _ _
  have mP := map_snoc h1 (pev (n : Int))
  generalize hC0 : CnR (n : Int) roots = C at *
  have bC : C.natAbs < 2 ^ 25 := by
    rw [← hC0]
    exact lt_up (CnR_lt (n := n) (by omega) h.rr) (by omega)
  obtain ⟨w1, w2⟩ := h.w n (by omega)
  generalize hw0 : pev (n : Int) (lastQ P) = w at *
  have bw : w.natAbs < 2 ^ 31 := lt_up w2 h.c31
  have lD : P.dropLast.length = P.length - 1 := List.length_dropLast
  have lvA := win_length P.dropLast (vs := sq P roots dr k) (n := n) (by rw [hlen, lD]; omega)
  have bws : BL 84 (P.dropLast.map (pev (n : Int))) := fun y hy => by
    obtain ⟨l, hl, rfl⟩ := List.mem_map.mp hy
    obtain ⟨_, g1, g2⟩ := h.sh l ((List.dropLast_sublist P).subset hl)
    exact ws_lt (by omega) g1 g2
  have hsz := sq_sz h (Nat.le_of_lt hk)
  have hvA : ∀ p ∈ vAt P.dropLast (sq P roots dr k) n, p.1.natAbs < 2 ^ 12000 ∧ p.2.natAbs < 2 ^ 1101 := fun p hp => (hsz p (List.mem_of_mem_drop (List.mem_of_mem_take hp))).2.2
  obtain ⟨D, hD, _, hin⟩ := sq_inv h k (Nat.le_of_lt hk)
  obtain ⟨_, _, bpos, _⟩ := wgh_lin (D := D) (a := 300 + 110 * k) (b := 84) (P.dropLast.map (pev (n : Int))) (vAt P.dropLast (sq P roots dr k) n) 0 1 0 (300 + 110 * k + 84) (by rw [List.length_map, lvA]) bws (fun p hp => hin p (List.mem_of_mem_drop (List.mem_of_mem_take hp))) (by simp) (by omega) (by simp; exact Nat.two_pow_pos _) (by omega)
  have hbd2 : (wgh (P.dropLast.map (pev (n : Int))) (vAt P.dropLast (sq P roots dr k) n) (0, 1)).2.natAbs < 2 ^ 4500 := by
    have gl : ∀ (ws : List Int) (vs : List (Int × Int)) (t b : Int) (q : Nat), (∀ p ∈ vs, p.2.natAbs < 2 ^ 1101) → b.natAbs < 2 ^ q → (wgh ws vs (t, b)).2.natAbs < 2 ^ (q + 1101 * ws.length) := fun ws => by
      induction ws with
      | nil => intro vs t b q _ hb; simpa [wgh] using hb
      | cons x ws ih =>
        intro vs t b q hv hb
        cases vs with
        | nil => simp only [wgh]; exact lt_up hb (by omega)
        | cons v vs =>
          simp only [wgh, List.length_cons]
          have := ih vs (t * v.2 + x * v.1 * b) (b * v.2) (q + 1101) (fun p hp => hv p (by simp [hp])) (natAbs_mul_lt hb (hv v (by simp)) (Nat.le_refl _))
          rw [Nat.mul_add, Nat.mul_one]
          exact lt_up this (by omega)
    have := gl (P.dropLast.map (pev (n : Int))) (vAt P.dropLast (sq P roots dr k) n) 0 1 1 (fun p hp => (hvA p hp).2) (by decide)
    rw [List.length_map, lD] at this
    exact lt_up this (by omega)
  have hsc := wgh_scale C (P.dropLast.map (pev (n : Int))) (vAt P.dropLast (sq P roots dr k) n) 0 1
  rw [Int.zero_mul] at hsc
  have hnx : nx P roots dr k (sq P roots dr k) = (rtop (-(wgh (P.dropLast.map (pev (n : Int))) (vAt P.dropLast (sq P roots dr k) n) (0, 1)).1) ((wgh (P.dropLast.map (pev (n : Int))) (vAt P.dropLast (sq P roots dr k) n) (0, 1)).2 * w), rbot (-(wgh (P.dropLast.map (pev (n : Int))) (vAt P.dropLast (sq P roots dr k) n) (0, 1)).1) ((wgh (P.dropLast.map (pev (n : Int))) (vAt P.dropLast (sq P roots dr k) n) (0, 1)).2 * w)) := by
    unfold nx
    rw [hn2, hkn, hw0, if_neg (by rw [not_or]; exact ⟨by omega, hnr⟩)]
  have ewk : wOk ((P.dropLast.map (pev (n : Int))).map fun x => x * C) (vAt P.dropLast (sq P roots dr k) n) = true := by
    refine wOk_of 200 12000 (by omega) (by omega) (by rw [List.length_map, List.length_map, lvA]) (by rw [List.length_map, List.length_map, lD]; omega) (fun y hy => ?_) (fun p hp => ⟨(hvA p hp).1, lt_up (hvA p hp).2 (by omega)⟩)
    obtain ⟨x, hx, rfl⟩ := List.mem_map.mp hy
    exact natAbs_mul_lt (bws x hx) bC (by omega)
  have hM := weighed_ok ewk
  rw [hsc] at hM
  rw [hnx]
  generalize wgh (P.dropLast.map (pev (n : Int))) (vAt P.dropLast (sq P roots dr k) n) (0, 1) = tb at *
  obtain ⟨t, b⟩ := tb
  simp only at bpos hbd2 hM ⊢
  have hbw : b * w ≠ 0 := Int.mul_ne_zero (by omega) w1
  have hrs := r_scale (a := -t) hbw hC
  -- the weights
  have eW : R.map (pev (n : Int)) = ((P.dropLast.map (pev (n : Int))).map fun x => x * C) ++ [w * C] := by rw [eP, mP, List.map_append]; rfl
  generalize hA : S.vl false (.fz (LD R)) = A
  generalize hB : S.vl false ov = B
  have hA0 : ∀ {r : Env}, (A :: r)[0]? = some (.vl false (.fz (LD R))) := fun {r} => by rw [← hA]; rfl
  have st : startE 7 [.fz (LD R), ov] = [A, B, .un, .un, .un, .un, .un] := by rw [← hA, ← hB]; rfl
  have v0 : ∀ {r : Env}, eVar 0 (A :: r) = .ok (.nw (.fz (LD R))) := fun {r} => by rw [← hA]; rfl
  have e2 : eOp gSub (eB gLen (aCons (eVar 1) aNil)) (eCallZ M_order_of (aCons (eVar 0) aNil)) [A, B, .un, .un, .un, .un, .un] = .ok (.nw (I n)) := by
    rw [e_sub (len_V (i := 1) (w := false) (by rw [← hB]; rfl) hov) (callZ1 v0 (order_ok hok) rfl), hlen, lR, show (k : Int) - (P.length - 1) = n by omega]
  have e3 : eLcD (iLst (eVar 0)) (gN 6) [6] tYesD (eCall M_poly_value (aCons (eVar 6) (aCons (eVar 2) aNil))) [A, B, VI n, .un, .un, .un, .un] = .ok (.nw (nO (R.map (pev (n : Int))))) := by
    rw [lcD_gen (v := fun k => I (pev (n : Int) (R.getD k []))) (iLst_L (i := 0) (w := false) hA0 (.inl rfl) (.inr rfl)) (by simp) (fun k hk => ⟨[A, B, VI n, .un, .un, .un, .vl true (lO (R.getD k []))], by simp [wipeE], ?_⟩) (by omega)]
    · congr 3
      refine List.ext_getElem? fun k => ?_
      by_cases h : k < R.length
      · simp [iL, h]
      · simp [iL, h]
    · obtain ⟨_, g1, g2⟩ := hs.t _ (getD_mem (d := []) hk)
      exact call2 (x := .nw (lO (R.getD k []))) (y := .nw (I n)) rfl rfl (value_ok (asIL_lst _) (valOk_of (60 + 20 * (0 + roots.length)) (by omega) (by omega) (by omega) g2 (by omega)))
  generalize hWs : ((P.dropLast.map (pev (n : Int))).map fun x => x * C) = Ws at *
  rw [eW] at e3
  have lWs : Ws.length = P.length - 1 := by rw [← hWs]; simp
  have e45 : eCall M_weighed (aCons (eSl (eVar 3) pNone (pSome (eUn gNeg (eC (.int 1))))) (aCons (eSl (eVar 1) (pSome (eVar 2)) pNone) aNil)) [A, B, VI n, .vl true (lO (Ws ++ [w * C])), .un, .un, .un] = .ok (.nw (.fz (fD (t * C, b)))) := by
    have s1 := sl_IL (f := eVar 3) (l := pNone) (h := pSome (eUn gNeg (eC (.int 1)))) (r := [A, B, VI n, .vl true (lO (Ws ++ [w * C])), .un, .un, .un]) (x := .nw (lO (Ws ++ [w * C]))) (lo := none) (hi := some (-1)) rfl (asIL_lst _) rfl rfl (by simp; omega)
    rw [cut_butlast, List.dropLast_concat] at s1
    have s2 := sl_V (f := eVar 1) (l := pSome (eVar 2)) (h := pNone) (r := [A, B, VI n, .vl true (lO (Ws ++ [w * C])), .un, .un, .un]) (x := see false ov) (lo := some (n : Int)) (hi := none) (by rw [← hB]; rfl) (by rw [see_a]; exact hov) rfl rfl (by rw [hlen]; omega)
    rw [cutL_tail] at s2
    have ev : (sq P roots dr k).drop n = vAt P.dropLast (sq P roots dr k) n := by
      unfold vAt
      rw [List.take_of_length_le (by rw [List.length_drop, hlen, lD]; omega)]
    rw [ev] at s2
    exact call2 s1 s2 (by rw [ra_nO, ra_nw, er_oV]; exact hM)
  have m1 : gMulA (I b) (I (w * C)) = .ok (.nw (I (b * (w * C)))) := gMul_lt 4500 56 hbd2 (natAbs_mul_lt bw bC (by omega)) (by omega) (by omega) (by omega)
  have e7 : eOp gMulA (eVar 5) (eIx (eVar 3) (eUn gNeg (eC (.int 1)))) [A, B, VI n, .vl true (lO (Ws ++ [w * C])), VI (t * C), VI b, .un] = .ok (.nw (I (b * (w * C)))) := by
    have i3 := ix_lastIL (f := eVar 3) (g := eUn gNeg (eC (.int 1))) (r := [A, B, VI n, .vl true (lO (Ws ++ [w * C])), VI (t * C), VI b, .un]) (x := .nw (lO (Ws ++ [w * C]))) rfl (asIL_lst _) (by simp) (by simp)
    simp only [List.length_append, List.length_cons, List.length_nil, Nat.zero_add, Nat.add_sub_cancel, List.getElem_concat_length] at i3
    rw [op_of (x := .nw (I b)) rfl i3]; exact m1
  have e8 : eUn gNeg (eVar 4) [A, B, VI n, .vl true (lO (Ws ++ [w * C])), VI (t * C), VI b, .un] = .ok (.nw (I (-(t * C)))) := rfl
  show runF 7 B_next_one _ = _
  unfold B_next_one
  refine run_ret ?_
  rw [st]
  refine seq_go (r' := [A, B, VI n, .un, .un, .un, .un]) (set_go e2 rfl (by simp)) (seq_go (r' := [A, B, VI n, .vl true (lO (Ws ++ [w * C])), .un, .un, .un]) (set_go e3 (put_nO _) (by simp)) (seq_go (r' := [A, B, VI n, .vl true (lO (Ws ++ [w * C])), VI (t * C), VI b, .un]) (asgT_go e45 (tup2_set (a := .int (t * C)) (b := .int b) (by simp) (by simp))) (ret_go (call2 e8 e7 ?_))))
  have hb0 : b * (w * C) ≠ 0 := Int.mul_ne_zero (by omega) (Int.mul_ne_zero w1 hC)
  show M_ratio [I (-(t * C)), I (b * (w * C))] = _
  have hsm : small9 (sgcd (-(t * C)) (b * (w * C))) = true := small9_lt 8999 (by omega) (by omega) (Nat.lt_of_le_of_lt (sgcd_le hb0) (lt_up (natAbs_mul_lt (m := 4500) (n := 56) hbd2 (natAbs_mul_lt bw bC (by omega)) (Nat.le_refl _)) (by omega)))
  have : M_ratio [I (-(t * C)), I (b * (w * C))] = .ok (.fz (fD (rtop (-(t * C)) (b * (w * C)), rbot (-(t * C)) (b * (w * C))))) := by
    show (if b * (w * C) = 0 then Res.exc ⟨"NoNumber", []⟩ else if small9 (sgcd (-(t * C)) (b * (w * C))) then .ok (O.fz (.tup [.int _, .int _])) else .bad) = _
    rw [if_neg hb0, if_pos hsm]
  rw [this, show -(t * C) = -t * C by grind, show b * (w * C) = b * w * C by grind, hrs.1, hrs.2]
/-! carried on -/
theorem list_V {f : FE} {r : Env} {vs : List (Int × Int)} (h : f r = .ok (.nw (.ls (oV vs)))) (hl : vs.length ≤ 100000) : eB gList (aCons f aNil) r = .ok (.nw (.ls (oV vs))) := by
  rw [b1 h, ra_nw, er_oV]
  have := items_VD vs
  simp only [gList, this]
  rw [if_pos (allFz_oV vs)]
theorem carried_ok {R : List (List Int)} {T : Nat → List (Int × Int)} {q : Nat → Int × Int} {L many : Nat} (h0 : ∀ k, T (k + 1) = T k ++ [q k]) (hl : ∀ k, (T k).length = k) (ht : ∀ k m, k ≤ m → (T m).take k = T k) (hL : L ≤ 1000) (hm : many ≤ 1000)
    (hf : M_look_at_first [.fz (LD R), .fz (VD (T L))] = .ok (.fz .non)) (hN : ∀ k, L ≤ k → k < many → M_next_one [.fz (LD R), .ls (oV (T k))] = .ok (.fz (fD (q k)))) :
    M_carried_on [.fz (LD R), .fz (VD (T L)), I many] = .ok (.ls (oV (T many))) := by
  generalize hA : S.vl false (.fz (LD R)) = A
  generalize hB : S.vl false (.fz (VD (T L))) = B
  have st : startE 4 [.fz (LD R), .fz (VD (T L)), I many] = [A, B, .vl false (I many), .un] := by rw [← hA, ← hB]; rfl
  have v0 : ∀ {r : Env}, eVar 0 (A :: r) = .ok (.nw (.fz (LD R))) := fun {r} => by rw [← hA]; rfl
  have v1 : ∀ {r : Env}, eVar 1 (A :: B :: r) = .ok (.nw (.fz (VD (T L)))) := fun {r} => by rw [← hB]; rfl
  have loop : ∀ (j f k : Nat), k + j = many → j < f → (L ≤ k ∨ j = 0) → whl (tOf (eOp gLt (eB gLen (aCons (eVar 3) aNil)) (eVar 2))) (sApp 3 (eCall M_next_one (aCons (eVar 0) (aCons (eVar 3) aNil)))) f [A, B, .vl false (I many), .vl true (.ls (oV (T k)))] = .nx [A, B, .vl false (I many), .vl true (.ls (oV (T many)))] := fun j => by
    induction j with
    | zero =>
      intro f k hk hf _
      obtain ⟨f', rfl⟩ : ∃ f', f = f' + 1 := ⟨f - 1, by omega⟩
      have : k = many := by omega
      subst this
      rw [whl_f]
      rw [t_lt (len_V (i := 3) rfl (.inl rfl)) (b := k) rfl, hl, decide_eq_false (by omega)]
    | succ j ih =>
      intro f k hk hf hd
      obtain ⟨f', rfl⟩ : ∃ f', f = f' + 1 := ⟨f - 1, by omega⟩
      rw [whl_t (r' := [A, B, .vl false (I many), .vl true (.ls (oV (T (k + 1))))])]
      · exact ih f' (k + 1) (by omega) (by omega) (.inl (by omega))
      · rw [t_lt (len_V (i := 3) rfl (.inl rfl)) (b := many) rfl, hl, decide_eq_true (by omega)]
      · rw [app_V (i := 3) (vs := T k) (p := q k) rfl (call2 (y := .vw (.ls (oV (T k)))) v0 rfl (hN k (by omega) (by omega))) (by rw [hl]; omega), h0]; rfl
  have hsl := sl_V (f := eVar 1) (l := pNone) (h := pSome (eVar 2)) (r := [A, B, .vl false (I many), .un]) (x := .nw (.fz (VD (T L)))) (vs := T L) (lo := none) (hi := some (many : Int)) v1 (.inr rfl) rfl rfl (by rw [hl]; omega)
  rw [cut_hi] at hsl
  have hk0 : (T L).take many = T (min many L) := by
    by_cases h : many ≤ L
    · rw [ht many L h, Nat.min_eq_left h]
    · rw [List.take_of_length_le (by rw [hl]; omega), Nat.min_eq_right (by omega)]
  rw [hk0] at hsl
  show runF 4 B_carried_on _ = _
  unfold B_carried_on
  refine run_ret ?_
  rw [st]
  refine seq_go (r' := [A, B, .vl false (I many), .un]) (by rw [sDrop_ev, callZ2 (M := M_look_at_first) v0 v1 hf rfl]) (seq_go (r' := [A, B, .vl false (I many), .vl true (.ls (oV (T (min many L))))]) (set_go (list_V hsl (by rw [hl]; omega)) rfl (by simp)) (seq_go (r' := [A, B, .vl false (I many), .vl true (.ls (oV (T many)))]) ?_ rfl))
  have := loop (many - min many L) (many + 1) (min many L) (by omega) (by omega) (by omega)
  exact this
theorem par_carried (h : Par P roots dr K c) {L many : Nat} (hL : L ≤ K) (hm : many ≤ K) {M : Nat} (hM : M ≤ 60) (hx : ∀ x ∈ roots, x < (M : Int)) (hlen : P.length - 1 + M ≤ L) : M_carried_on [.fz (LD (rl P roots)), .fz (VD (sq P roots dr L)), I many] = .ok (.ls (oV (sq P roots dr many))) := by
  have h1 := h.p1
  have h100 := h.K100
  have hs := par_rs h
  have h3 := h.r3
  have lR := rl_length roots P
  obtain ⟨m, m1, m2⟩ := rl_reach (M := M) (roots := roots) h1 hM hx h.cl
  have hp : 0 < (rl P roots).length := by omega
  have elast : (rl P roots)[(rl P roots).length - 1]'(by omega) = lastQ (rl P roots) := by unfold lastQ; rw [getD_lt (by omega)]
  have hok := rs_ok (by omega) hs
  obtain ⟨_, g1, g2⟩ := hs.t (lastQ (rl P roots)) (getD_mem (by omega))
  refine carried_ok (q := fun k => nx P roots dr k (sq P roots dr k)) (fun k => rfl) (sq_length P roots dr) (fun k m hk => sq_take P roots dr k m hk) (by omega) (by omega) ?_ fun k hk1 hk2 => next_ok h (by omega) (by omega) (fun x hx' => by have := hx x hx'; omega) (.inl rfl)
  refine first_ok hok hp (m := m) ?_ (by rw [elast]; exact m1) (by rw [sq_length, lR]; omega) (by rw [sq_length]; omega) fun n hn => ?_
  · rw [elast]
    exact rcOk_of (60 + 20 * (0 + roots.length)) (by omega) (by omega) (by omega) g2
  · rw [sq_length, lR] at hn
    exact ⟨par_kp h hL hn, sq_kept h hL hn⟩
/-! asking -/
theorem isf_ok {p : Int × Int} (h1 : 1 ≤ p.2) (h2 : gcdI p.1 p.2 = 1) : M__law_is_fraction [.fz (fD p)] = .ok (.fz (.bl true)) := by
  obtain ⟨a, b⟩ := p
  simp only at h1 h2
  have i0 : eIx (eVar 0) (eC (.int 0)) [.vl false (.fz (fD (a, b)))] = .ok (.nw (I a)) := tup_i0 (i := 0) (w := false) rfl
  have i1 : eIx (eVar 0) (eC (.int 1)) [.vl false (.fz (fD (a, b)))] = .ok (.nw (I b)) := tup_i1 (i := 0) (w := false) rfl
  show runF 1 B__law_is_fraction _ = _
  unfold B__law_is_fraction
  refine run_ret (seq_go (if_f (r := [.vl false (.fz (fD (a, b)))]) (or_ff (tNot_ok (b := true) (tOf_ok rfl)) (or_ff (by rw [t_ne (a := 2) (b := 2) rfl (eC_ev _)]; rfl) (or_ff (bF (call1 i0 rfl)) (bF (call1 i1 rfl))))) rfl) (ret_go ?_))
  have g1 : eOp gGt (eIx (eVar 0) (eC (.int 1))) (eC (.int 0)) [.vl false (.fz (fD (a, b)))] = .ok (.nw (.fz (.bl true))) := by
    rw [op_of i1 (eC_ev _)]
    show gGt (I b) (I 0) = _
    rw [gGt_ev, decide_eq_true (by omega)]
  have g2 : eOp gEq (eCall M__law_divisor (aCons (eIx (eVar 0) (eC (.int 0))) (aCons (eIx (eVar 0) (eC (.int 1))) aNil))) (eC (.int 1)) [.vl false (.fz (fD (a, b)))] = .ok (.nw (.fz (.bl true))) := by
    rw [op_of (x := .nw (I (gcdI a b))) (call2 i0 i1 rfl) (eC_ev _), h2]; rfl
  show eAnd _ _ [.vl false (.fz (fD (a, b)))] = _
  rw [eAnd, g1]
  simp only [res_ok, ra_nw, er_fz, onB, if_true]
  exact g2
theorem lkeeps_ok {R : List (List Int)} {vs : List (Int × Int)} (hv : vs.length ≤ 1000) (hl : R.length ≤ 1000) (hkp : ∀ n : Nat, n + R.length ≤ vs.length → kpOk R vs n = true ∧ kept R vs n = true) : M__law_keeps [.fz (LD R), .fz (VD vs)] = .ok (.fz (.bl true)) := by
  generalize hA : S.vl false (.fz (LD R)) = A
  generalize hB : S.vl false (.fz (VD vs)) = B
  have st : startE 3 [.fz (LD R), .fz (VD vs)] = [A, B, .un] := by rw [← hA, ← hB]; rfl
  have v0 : ∀ {r : Env}, eVar 0 (A :: r) = .ok (.nw (.fz (LD R))) := fun {r} => by rw [← hA]; rfl
  have v1 : ∀ {r : Env}, eVar 1 (A :: B :: r) = .ok (.nw (.fz (VD vs))) := fun {r} => by rw [← hB]; rfl
  obtain ⟨r', hf, z, er'⟩ := for_gen (fg := gN 2) (F := sIf (tOf (eOp gNe (eIx (eCall M__law_weighed (aCons (eVar 0) (aCons (eVar 1) (aCons (eVar 2) aNil)))) (eC (.int 0))) (eC (.int 0)))) (sRet (eC (.bl false))) sNil) (g := fun (k : Nat) => intR (k : Int)) (n := ((vs.length : Int) - R.length + 1).toNat) (r := [A, B, .un])
    (fun k r => ∃ z, r = [A, B, z]) ⟨.un, rfl⟩ (fun k r hk ⟨z, hr⟩ => by
      subst hr
      obtain ⟨q1, q2⟩ := hkp k (by omega)
      refine ⟨[A, B, VI k], [A, B, VI k], by simp [intR], if_f ?_ rfl, VI k, rfl⟩
      have e := call3 (M := M__law_weighed) (f := eVar 0) (g := eVar 1) (k := eVar 2) (z := .nw (I k)) v0 (v1 (r := [VI k])) rfl (lweighed_ok (n := k) (wkOk_of (by omega) (by omega) q1))
      unfold kept at q2
      generalize wgh (R.map (pev (k : Int))) (vAt R vs k) (0, 1) = tb at e q2
      obtain ⟨t, b⟩ := tb
      rw [t_ne (e_tup0 e) (eC_ev _)]
      have : t = 0 := by simpa using q2
      rw [this]; rfl)
  subst er'
  show runF 3 B__law_keeps _ = _
  unfold B__law_keeps
  refine run_ret ?_
  rw [st]
  refine seq_go (for_go ?_ hf) (ret_go (eC_ev _))
  rw [iRng_ev, aCons_ev, e_add (e_sub (len_VD v1) (len_L (i := 0) (w := false) (by rw [← hA]; rfl) (.inr rfl))) (eC_ev _)]
  exact rng1_any (by omega) (by omega)
theorem need_ok {P : List (List Int)} {roots : List Int} (hP : P.length ≤ 100) (hr : roots.length ≤ 100) : M__law_need [.fz (LD P), lO roots] = .ok (I (P.length - 1 + maxD 0 (roots.map fun x => x + 1))) := by
  have e1 : eLcD (iLst (eVar 1)) (gN 2) [2] tYesD (eOp gAddA (eVar 2) (eC (.int 1))) [.vl false (.fz (LD P)), .vl false (lO roots), .un] = .ok (.nw (nO (roots.map fun x => x + 1))) :=
    lc_map (g := fun x => x + 1) (iLst_fz (i := 1) (w := false) rfl) (by simp) (fun x _ => ⟨[.vl false (.fz (LD P)), .vl false (lO roots), VI x], by simp [wipeE, intR], e_add (a := x) rfl (eC_ev _)⟩) (by omega)
  have e2 : eMaxD 0 (eLcD (iLst (eVar 1)) (gN 2) [2] tYesD (eOp gAddA (eVar 2) (eC (.int 1)))) [.vl false (.fz (LD P)), .vl false (lO roots), .un] = .ok (.nw (I (maxD 0 (roots.map fun x => x + 1)))) := by
    have := intsOf_iL (roots.map fun x => x + 1)
    have h2 := items_lO (roots.map fun x => x + 1)
    simp only [eMaxD, e1, res_ok, ra_nO, h2, Option.bind, this]
    rfl
  show runF 3 B__law_need _ = _
  unfold B__law_need
  exact run_ret (ret_go (e_add (e_sub (len_L (i := 0) (w := false) (r := [.vl false (.fz (LD P)), .vl false (lO roots), .un]) rfl (.inr rfl)) (eC_ev _)) e2))
theorem maxD_sp {xs : List Int} {b : Int} (hb : 0 ≤ b) (h : ∀ x ∈ xs, 0 ≤ x ∧ x ≤ b) : 0 ≤ maxD 0 xs ∧ maxD 0 xs ≤ b ∧ ∀ x ∈ xs, x ≤ maxD 0 xs := by
  cases xs with
  | nil => exact ⟨Int.le_refl _, hb, fun _ h => nomatch h⟩
  | cons y ys =>
    have hm := maxL_mem ys y
    obtain ⟨g1, g2⟩ := maxL_ge ys y
    obtain ⟨k1, k2⟩ := h _ hm
    exact ⟨k1, k2, fun x hx => by
      rcases List.mem_cons.mp hx with e | e
      · rw [e]; exact g1
      · exact g2 x e⟩
/-! what is drawn -/
def f3 (b c x : Int) : List Int := if c ≠ 0 then [x, b, c] else if b ≠ 0 then [x, b] else [x]
theorem f3_trim {a b c : Int} (ha : a ≠ 0) : trim [a, b, c] = f3 b c a := by
  unfold f3
  by_cases hc : c = 0
  · rw [if_neg (by simpa using hc)]
    subst hc
    rw [show [a, b, (0 : Int)] = [a, b] ++ [0] from rfl, trim_snoc0]
    by_cases hb : b = 0
    · rw [if_neg (by simpa using hb)]
      subst hb
      rw [show [a, (0 : Int)] = [a] ++ [0] from rfl, trim_snoc0]
      exact trim_snoc [] ha
    · rw [if_pos hb]; exact trim_snoc [a] hb
  · rw [if_pos hc]; exact trim_snoc [a, b] hc
theorem f3_set (a b c x : Int) : (f3 b c a).set 0 x = f3 b c x := by
  unfold f3
  split
  · rfl
  · split <;> rfl
theorem f3_len (b c x : Int) : 0 < (f3 b c x).length ∧ (f3 b c x).length ≤ 3 := by
  unfold f3
  split
  · simp
  · split <;> simp
theorem f3_good {a b c s : Int} (hs : s = 1 ∨ s = -1) (ha : 1 ≤ a) (ha2 : a ≤ 1000000000) (hb : 0 ≤ b ∧ b < 4) (hc : 0 ≤ c ∧ c < 3) {l : List Int} (hl : l = (f3 b c a).map fun y => s * y) : trim l = l ∧ l.length ≤ 3 ∧ BL 60 l ∧ sgn1 l = true ∧ ∀ n : Nat, n ≤ 36 → (pev (n : Int) l).natAbs < 2 ^ 31 := by
  have ht : trim (f3 b c a) = f3 b c a := by rw [← f3_trim (by omega), trim_trim]
  have hm : ∀ y ∈ f3 b c a, 0 ≤ y ∧ y ≤ 1000000000 := fun y hy => by
    unfold f3 at hy
    split at hy
    · have : y = a ∨ y = b ∨ y = c := by simpa using hy
      omega
    · split at hy
      · have : y = a ∨ y = b := by simpa using hy
        omega
      · have : y = a := by simpa using hy
        omega
  have hs0 : s ≠ 0 := by omega
  subst hl
  refine ⟨trim_last fun hp => ?_, by rw [List.length_map]; exact (f3_len b c a).2, fun y hy => ?_, ?_, fun n hn => ?_⟩
  · rw [co_mulZ, List.length_map]
    exact Int.mul_ne_zero hs0 (last_trim ht (f3_len b c a).1)
  · obtain ⟨x, hx, rfl⟩ := List.mem_map.mp hy
    obtain ⟨h1, h2⟩ := hm x hx
    rcases hs with e | e <;> subst e <;> omega
  · refine Sg_to hs ⟨?_, fun k => ?_⟩
    · rw [co_mulZ]
      have : co (f3 b c a) 0 = a := by
        unfold f3
        split
        · rfl
        · split <;> rfl
      rw [this]
      rcases hs with e | e <;> subst e <;> omega
    · rw [co_mulZ]
      have h0 : 0 ≤ co (f3 b c a) k := by
        by_cases hk : k < (f3 b c a).length
        · rw [co_lt hk]; exact (hm _ (List.getElem_mem hk)).1
        · rw [co_ge (by omega)]; omega
      rcases hs with e | e <;> subst e <;> omega
  · rw [pev_map]
    have hp : pev (n : Int) (f3 b c a) = a + n * b + n * n * c := by
      rw [← f3_trim (by omega), pev_trim]; simp [pev]; grind
    have h1 : 0 ≤ (n : Int) * b ∧ (n : Int) * b ≤ 36 * 3 := ⟨Int.mul_nonneg (by omega) hb.1, Int.mul_le_mul (by omega) (by omega) hb.1 (by omega)⟩
    have h2 : 0 ≤ (n : Int) * n ∧ (n : Int) * n ≤ 36 * 36 := ⟨Int.mul_nonneg (by omega) (by omega), Int.mul_le_mul (by omega) (by omega) (by omega) (by omega)⟩
    have h3 : 0 ≤ (n : Int) * n * c ∧ (n : Int) * n * c ≤ 36 * 36 * 2 := ⟨Int.mul_nonneg h2.1 hc.1, Int.mul_le_mul h2.2 (by omega) hc.1 (by omega)⟩
    rw [hp, Int.natAbs_mul]
    have : s.natAbs = 1 := by omega
    rw [this, Nat.one_mul]
    omega
theorem e9 (r : Env) : eOp gPow (eC (.int 10)) (eC (.int 9)) r = .ok (.nw (I (10 ^ 9))) := rfl
theorem e18 (r : Env) : eOp gPow (eC (.int 10)) (eC (.int 18)) r = .ok (.nw (I (10 ^ 18))) := rfl
theorem last_ok (cc : Int) : ∃ (l : List Int) (z : O), M__law_last [I cc] = .ok z ∧ asIL z = some l ∧ trim l = l ∧ l.length ≤ 3 ∧ BL 60 l ∧ sgn1 l = true ∧ ∀ n : Nat, n ≤ 36 → (pev (n : Int) l).natAbs < 2 ^ 31 := by
  have t1 : ∀ x : S, tOf (eOp gEq (eOp gMod (eVar 0) (eC (.int 3))) (eC (.int 0))) [.vl false (I cc), x, .un] = .ok (decide (cc.fmod 3 = 0)) := fun x => t_eq (e_mod (a := cc) rfl (by omega)) (eC_ev _)
  have t3 : ∀ x : S, tOf (eOp gEq (eOp gMod (eVar 0) (eC (.int 3))) (eC (.int 2))) [.vl false (I cc), x, .un] = .ok (decide (cc.fmod 3 = 2)) := fun x => t_eq (e_mod (a := cc) rfl (by omega)) (eC_ev _)
  by_cases h0 : cc.fmod 3 = 0
  · have g := f3_good (a := 1) (b := 0) (c := 0) (s := 1) (.inl rfl) (by omega) (by omega) (by omega) (by omega) (l := [1]) rfl
    refine ⟨[1], nO [1], ?_, asIL_ls _, g⟩
    show runF 3 B__law_last _ = _
    unfold B__law_last
    exact run_ret (seq_ret (if_t (by rw [show startE 3 [I cc] = [.vl false (I cc), .un, .un] from rfl, t1, decide_eq_true h0]) (ret_go (by simp [eLst, allFz, iL]))))
  · have r1 := fmod_rg (a := cc.fdiv 3) (b := 9) (by omega)
    have r2 := fmod_rg (a := cc.fdiv 27) (b := 4) (by omega)
    have r3 := fmod_rg (a := cc.fdiv 108) (b := 3) (by omega)
    have r4 := fmod_rg (a := cc.fdiv 2592) (b := 10 ^ 9) (by omega)
    have q1 : ∀ {x : S}, eOp gAddA (eC (.int 1)) (eOp gMod (eOp gDiv (eVar 0) (eC (.int 3))) (eC (.int 9))) [.vl false (I cc), x, .un] = .ok (.nw (I (1 + (cc.fdiv 3).fmod 9))) := fun {x} => e_add (eC_ev _) (e_mod (e_div (a := cc) rfl (by omega) (by omega)) (by omega))
    have q2 : ∀ {x : S}, eOp gMod (eOp gDiv (eVar 0) (eC (.int 27))) (eC (.int 4)) [.vl false (I cc), x, .un] = .ok (.nw (I ((cc.fdiv 27).fmod 4))) := fun {x} => e_mod (e_div (a := cc) rfl (by omega) (by omega)) (by omega)
    have q3 : ∀ {x : S}, eOp gMod (eOp gDiv (eVar 0) (eC (.int 108))) (eC (.int 3)) [.vl false (I cc), x, .un] = .ok (.nw (I ((cc.fdiv 108).fmod 3))) := fun {x} => e_mod (e_div (a := cc) rfl (by omega) (by omega)) (by omega)
    have ra : 1 ≤ 1 + (cc.fdiv 3).fmod 9 ∧ 1 + (cc.fdiv 3).fmod 9 ≤ 9 := by omega
    generalize (cc.fdiv 27).fmod 4 = b at *
    generalize (cc.fdiv 108).fmod 3 = c at *
    generalize 1 + (cc.fdiv 3).fmod 9 = a at *
    have e1 : eCall M__law_cut (aCons (eLst (aCons (eOp gAddA (eC (.int 1)) (eOp gMod (eOp gDiv (eVar 0) (eC (.int 3))) (eC (.int 9)))) (aCons (eOp gMod (eOp gDiv (eVar 0) (eC (.int 27))) (eC (.int 4))) (aCons (eOp gMod (eOp gDiv (eVar 0) (eC (.int 108))) (eC (.int 3))) aNil)))) aNil) [.vl false (I cc), .un, .un] = .ok (.nw (nO (f3 b c a))) := by
      rw [← f3_trim (by omega)]
      refine call1 (x := .nw (nO [a, b, c])) ?_ (by rw [ra_nO]; exact cut_ok (asIL_lst _))
      simp only [eLst, aCons_ev, q1, q2, q3, res_ok, aNil_ev]; rfl
    have key : ∃ a' : Int, sIf (tOf (eOp gEq (eOp gMod (eOp gDiv (eVar 0) (eC (.int 324))) (eC (.int 8))) (eC (.int 7)))) (sPut 1 (eOp gAddA (eC (.int 1)) (eOp gMod (eOp gDiv (eVar 0) (eC (.int 2592))) (eOp gPow (eC (.int 10)) (eC (.int 9))))) (eC (.int 0))) sNil [.vl false (I cc), .vl true (nO (f3 b c a)), .un] = .nx [.vl false (I cc), .vl true (nO (f3 b c a')), .un] ∧ 1 ≤ a' ∧ a' ≤ 1000000000 := by
      have tt : tOf (eOp gEq (eOp gMod (eOp gDiv (eVar 0) (eC (.int 324))) (eC (.int 8))) (eC (.int 7))) [.vl false (I cc), .vl true (nO (f3 b c a)), .un] = .ok (decide ((cc.fdiv 324).fmod 8 = 7)) := t_eq (e_mod (e_div (a := cc) rfl (by omega) (by omega)) (by omega)) (eC_ev _)
      by_cases h : (cc.fdiv 324).fmod 8 = 7
      · refine ⟨1 + (cc.fdiv 2592).fmod (10 ^ 9), if_t (tt.trans (by rw [decide_eq_true h])) ?_, by omega, by omega⟩
        have ev : eOp gAddA (eC (.int 1)) (eOp gMod (eOp gDiv (eVar 0) (eC (.int 2592))) (eOp gPow (eC (.int 10)) (eC (.int 9)))) [.vl false (I cc), .vl true (nO (f3 b c a)), .un] = .ok (.nw (I (1 + (cc.fdiv 2592).fmod (10 ^ 9)))) := by
          refine e_add (eC_ev _) ?_
          rw [op_of (e_div (a := cc) rfl (by omega) (by omega)) (e9 _)]
          exact gMod_ev (by omega)
        rw [put_IL (v := 1 + (cc.fdiv 2592).fmod (10 ^ 9)) (k := 0) (j := 0) rfl ev (eC_ev _) rfl (f3_len b c a).1, f3_set]; rfl
      · exact ⟨a, if_f (tt.trans (by rw [decide_eq_false h])) rfl, by omega, by omega⟩
    obtain ⟨a', hk, ha1, ha2⟩ := key
    by_cases h2 : cc.fmod 3 = 2
    · have g := f3_good (a := a') (b := b) (c := c) (s := -1) (.inr rfl) ha1 ha2 r2 r3 (l := (f3 b c a').map fun y => -y) (List.map_congr_left fun y _ => by omega)
      refine ⟨(f3 b c a').map fun y => -y, nO ((f3 b c a').map fun y => -y), ?_, asIL_ls _, g⟩
      show runF 3 B__law_last _ = _
      unfold B__law_last
      refine run_ret (seq_go (r' := [.vl false (I cc), .un, .un]) (if_f (by rw [show startE 3 [I cc] = [.vl false (I cc), .un, .un] from rfl, t1, decide_eq_false h0]) rfl) (seq_go (r' := [.vl false (I cc), .vl true (nO (f3 b c a)), .un]) (set_go e1 rfl (by simp)) (seq_go hk (seq_go (r' := [.vl false (I cc), .vl true (nO ((f3 b c a').map fun y => -y)), .un]) (if_t (by rw [t3, decide_eq_true h2]) (seq_go (r' := [.vl false (I cc), .vl true (lO (f3 b c a')), .un]) ?_ (set_go (lc_map (g := fun y => -y) (iLst_fz (i := 1) (w := true) rfl) (by simp) (fun x _ => ⟨[.vl false (I cc), .vl true (lO (f3 b c a')), VI x], by simp [wipeE, intR], by simp [eVar]⟩) (by have := (f3_len b c a').2; omega)) rfl (by simp)))) rfl))))
      show Out.nx (List.set _ 1 (.vl true (.fz (er (nO (f3 b c a')))))) = _
      rw [er_nO]; rfl
    · have g := f3_good (a := a') (b := b) (c := c) (s := 1) (.inl rfl) ha1 ha2 r2 r3 (l := f3 b c a') (by simp)
      refine ⟨f3 b c a', nO (f3 b c a'), ?_, asIL_ls _, g⟩
      show runF 3 B__law_last _ = _
      unfold B__law_last
      exact run_ret (seq_go (r' := [.vl false (I cc), .un, .un]) (if_f (by rw [show startE 3 [I cc] = [.vl false (I cc), .un, .un] from rfl, t1, decide_eq_false h0]) rfl) (seq_go (r' := [.vl false (I cc), .vl true (nO (f3 b c a)), .un]) (set_go e1 rfl (by simp)) (seq_go hk (seq_go (if_f (by rw [t3, decide_eq_false h2]) rfl) rfl))))
/-! roots -/
theorem roots_ok (ns : List Int) : ∃ roots : List Int, M__law_roots [.fz (.scr ns)] = .ok (nO roots) ∧ roots.length ≤ 3 ∧ ∀ x ∈ roots, 0 ≤ x ∧ x < if ((cellAt ns 1).fdiv 4).fmod 3 = 2 then 60 else 6 := by
  generalize hc : cellAt ns 1 = cc
  generalize hmo : (if (cc.fdiv 4).fmod 3 = 2 then (60 : Int) else 6) = mo
  have hmo2 : mo = 60 ∨ mo = 6 := by rw [← hmo]; split <;> simp
  have r1 := fmod_rg (a := cc) (b := 4) (by omega)
  have s12 : sSeq (sSet 2 false (eC (.int 6))) (sIf (tOf (eOp gEq (eOp gMod (eOp gDiv (eVar 1) (eC (.int 4))) (eC (.int 3))) (eC (.int 2)))) (sSet 2 false (eC (.int 60))) sNil) [scrS ns, VI cc, .un, .un, .un, .un] = .nx [scrS ns, VI cc, VI mo, .un, .un, .un] := by
    have tt : tOf (eOp gEq (eOp gMod (eOp gDiv (eVar 1) (eC (.int 4))) (eC (.int 3))) (eC (.int 2))) [scrS ns, VI cc, VI 6, .un, .un, .un] = .ok (decide ((cc.fdiv 4).fmod 3 = 2)) := t_eq (e_mod (e_div (a := cc) rfl (by omega) (by omega)) (by omega)) (eC_ev _)
    refine seq_go (r' := [scrS ns, VI cc, VI 6, .un, .un, .un]) (set_go (x := .nw (I 6)) (eC_ev _) rfl (by simp)) ?_
    by_cases h : (cc.fdiv 4).fmod 3 = 2
    · rw [if_pos h] at hmo
      subst hmo
      exact if_t (tt.trans (by rw [decide_eq_true h])) (set_go (x := .nw (I 60)) (eC_ev _) rfl (by simp))
    · rw [if_neg h] at hmo
      subst hmo
      exact if_f (tt.trans (by rw [decide_eq_false h])) rfl
  generalize hcs : [cellAt ns 2, (cellAt ns 2).fdiv mo, cellAt ns 3] = cs
  have lcs : cs.length = 3 := by rw [← hcs]; rfl
  have e3 : eLst (aCons (eCall M__law_cell_at (aCons (eVar 0) (aCons (eC (.int 2)) aNil))) (aCons (eOp gDiv (eCall M__law_cell_at (aCons (eVar 0) (aCons (eC (.int 2)) aNil))) (eVar 2)) (aCons (eCall M__law_cell_at (aCons (eVar 0) (aCons (eC (.int 3)) aNil))) aNil))) [scrS ns, VI cc, VI mo, .un, .un, .un] = .ok (.nw (nO cs)) := by
    have q1 : eOp gDiv (eCall M__law_cell_at (aCons (eVar 0) (aCons (eC (.int 2)) aNil))) (eVar 2) [scrS ns, VI cc, VI mo, .un, .un, .un] = .ok (.nw (I ((cellAt ns 2).fdiv mo))) := by
      rw [op_of (cell_c (by omega)) (y := .nw (I mo)) rfl]
      exact gDiv_pos (by omega) (by omega)
    have c2 := cell_c (ns := ns) (r := [VI cc, VI mo, .un, .un, .un]) (k := 2) (by omega)
    have c3 := cell_c (ns := ns) (r := [VI cc, VI mo, .un, .un, .un]) (k := 3) (by omega)
    simp only [eLst, aCons_ev, q1, c2, c3, res_ok, aNil_ev]
    rw [← hcs]; rfl
  have e4 : eLcD (iLst (eVar 3)) (gN 5) [5] tYesD (eOp gMod (eVar 5) (eVar 2)) [scrS ns, VI cc, VI mo, .vl true (lO cs), .un, .un] = .ok (.nw (nO (cs.map fun x => x.fmod mo))) :=
    lc_map (g := fun x => x.fmod mo) (iLst_fz (i := 3) (w := true) rfl) (by simp) (fun x _ => ⟨[scrS ns, VI cc, VI mo, .vl true (lO cs), .un, VI x], by simp [wipeE, intR], by rw [op_of (x := .nw (I x)) (y := .nw (I mo)) rfl rfl]; exact gMod_ev (by omega)⟩) (by omega)
  obtain ⟨m, hm⟩ : ∃ m : Nat, cc.fmod 4 = m := ⟨(cc.fmod 4).toNat, by omega⟩
  generalize hrs : (cs.map fun x => x.fmod mo).take m = rs
  have brs : ∀ x ∈ rs, 0 ≤ x ∧ x < mo := fun x hx => by
    rw [← hrs] at hx
    obtain ⟨y, _, rfl⟩ := List.mem_map.mp (List.mem_of_mem_take hx)
    exact fmod_rg (by omega)
  have lrs : rs.length ≤ 3 := by rw [← hrs, List.length_take, List.length_map]; omega
  have e5 : eSl (eLcD (iLst (eVar 3)) (gN 5) [5] tYesD (eOp gMod (eVar 5) (eVar 2))) pNone (pSome (eOp gMod (eVar 1) (eC (.int 4)))) [scrS ns, VI cc, VI mo, .vl true (lO cs), .un, .un] = .ok (.nw (nO rs)) := by
    have := sl_IL (l := pNone) (h := pSome (eOp gMod (eVar 1) (eC (.int 4)))) (lo := none) (hi := some (m : Int)) e4 (by rw [ra_nO]; exact asIL_lst _) rfl (by
      have := e_mod (f := eVar 1) (r := [scrS ns, VI cc, VI mo, .vl true (lO cs), .un, .un]) (a := cc) (b := 4) rfl (by omega)
      simp only [pSome, this, hm]; rfl) (by rw [List.length_map]; omega)
    rw [cut_hi, hrs] at this
    exact this
  have pre : ∀ {o : Out}, sSeq (sIf (tAndD (tOf (eOp gEq (eVar 2) (eC (.int 60)))) (tAndD (tOf (eOp gNe (eVar 4) (eLst aNil))) (tOf (eOp gEq (eOp gMod (eOp gDiv (eVar 1) (eC (.int 12))) (eC (.int 2))) (eC (.int 1)))))) (sPut 4 (eC (.int 59)) (eC (.int 0))) sNil) (sRetV 4) [scrS ns, VI cc, VI mo, .vl true (lO cs), .vl true (nO rs), .un] = o → B__law_roots (startE 6 [.fz (.scr ns)]) = o := fun {o} hq => by
    unfold B__law_roots
    have k2 : ∀ {F : FS} {o : Out}, F [scrS ns, VI cc, VI mo, .un, .un, .un] = o → sSeq (sSet 2 false (eC (.int 6))) (sSeq (sIf (tOf (eOp gEq (eOp gMod (eOp gDiv (eVar 1) (eC (.int 4))) (eC (.int 3))) (eC (.int 2)))) (sSet 2 false (eC (.int 60))) sNil) F) [scrS ns, VI cc, .un, .un, .un, .un] = o := fun {F o} hF => by
      have h6 : sSet 2 false (eC (.int 6)) [scrS ns, VI cc, .un, .un, .un, .un] = .nx [scrS ns, VI cc, VI 6, .un, .un, .un] := set_go (x := .nw (I 6)) (eC_ev _) rfl (by simp)
      rw [sSeq_ev, h6] at s12
      exact seq_go h6 (seq_go s12 hF)
    exact seq_go (r' := [scrS ns, VI cc, .un, .un, .un, .un]) (set_go (x := .nw (I cc)) (by rw [← hc]; exact cell_c (r := [.un, .un, .un, .un, .un]) (by omega)) rfl (by simp [startE])) (k2 (seq_go (set_go e3 (put_nO _) (by simp)) (seq_go (set_go e5 rfl (by simp)) hq)))
  have ta : tOf (eOp gEq (eVar 2) (eC (.int 60))) [scrS ns, VI cc, VI mo, .vl true (lO cs), .vl true (nO rs), .un] = .ok (decide (mo = 60)) := t_eq rfl (eC_ev _)
  have tb : tOf (eOp gNe (eVar 4) (eLst aNil)) [scrS ns, VI cc, VI mo, .vl true (lO cs), .vl true (nO rs), .un] = .ok (!decide (rs = [])) := by
    rw [tOf_ev, op_of (x := .vw (nO rs)) rfl (nil_ok _), ra_nO, ra_vw, gNe_IL (asIL_ls rs) (asIL_lst [])]; rfl
  have tc : tOf (eOp gEq (eOp gMod (eOp gDiv (eVar 1) (eC (.int 12))) (eC (.int 2))) (eC (.int 1))) [scrS ns, VI cc, VI mo, .vl true (lO cs), .vl true (nO rs), .un] = .ok (decide ((cc.fdiv 12).fmod 2 = 1)) := t_eq (e_mod (e_div (a := cc) rfl (by omega) (by omega)) (by omega)) (eC_ev _)
  have plain : ∀ (_ : tAndD (tOf (eOp gEq (eVar 2) (eC (.int 60)))) (tAndD (tOf (eOp gNe (eVar 4) (eLst aNil))) (tOf (eOp gEq (eOp gMod (eOp gDiv (eVar 1) (eC (.int 12))) (eC (.int 2))) (eC (.int 1))))) [scrS ns, VI cc, VI mo, .vl true (lO cs), .vl true (nO rs), .un] = .ok false), ∃ roots : List Int, M__law_roots [.fz (.scr ns)] = .ok (nO roots) ∧ roots.length ≤ 3 ∧ ∀ x ∈ roots, 0 ≤ x ∧ x < mo := fun hf => by
    refine ⟨rs, ?_, lrs, brs⟩
    show runF 6 B__law_roots _ = _
    exact run_ret (pre (seq_go (if_f hf rfl) rfl))
  by_cases h1 : mo = 60
  · rw [decide_eq_true h1] at ta
    by_cases h2 : rs = []
    · rw [decide_eq_true h2] at tb
      exact plain (and_t ta (and_f tb))
    · rw [decide_eq_false h2] at tb
      by_cases h3 : (cc.fdiv 12).fmod 2 = 1
      · refine ⟨rs.set 0 59, ?_, by rw [List.length_set]; exact lrs, fun x hx => ?_⟩
        · show runF 6 B__law_roots _ = _
          refine run_ret (pre (seq_go (r' := [scrS ns, VI cc, VI mo, .vl true (lO cs), .vl true (nO (rs.set 0 59)), .un]) (if_t (and_t ta (and_t tb (tc.trans (by rw [decide_eq_true h3])))) ?_) rfl))
          rw [put_IL (v := 59) (k := 0) (j := 0) rfl (eC_ev _) (eC_ev _) rfl (List.length_pos_iff.mpr h2)]; rfl
        · rcases List.mem_or_eq_of_mem_set hx with h | h
          · exact brs x h
          · omega
      · exact plain (and_t ta (and_t tb (tc.trans (by rw [decide_eq_false h3]))))
  · rw [decide_eq_false h1] at ta
    exact plain (and_f ta)
/-! parts -/
theorem cat_L {a b : O} {xs ys : List (List Int)} (ha : IsL a xs) (hb : IsL b ys) (hl : xs.length + ys.length ≤ 100000) : gAddA a b = .ok (.nw (.ls (oL (xs ++ ys)))) := by
  have e : gAddA a b = gCat a b := by rcases ha with rfl | rfl <;> rfl
  have s1 : isScr a = false := by rcases ha with rfl | rfl <;> rfl
  have s2 : isScr b = false := by rcases hb with rfl | rfl <;> rfl
  rw [e, gCat, s1, s2, ha.items, hb.items]
  simp only [Bool.or_self, Bool.false_eq_true, if_false]
  rw [show oL xs ++ oL ys = oL (xs ++ ys) by simp [oL]]
  exact lsR_ev (allFz_oL _) (by simp; omega)
theorem num18_lt (i : Int) : (lawNumM i (10 ^ 18)).natAbs < 2 ^ 60 := Nat.lt_trans (lawNumM_lt _ (by decide)) (by decide)
abbrev partTurn : FS := (sSeq (sSet 4 false (eOp gMod (eCall M__law_cell_at (aCons (eVar 0) (aCons (eOp gAddA (eC (.int 6)) (eOp gMulA (eC (.int 3)) (eVar 3))) aNil))) (eC (.int 2147483647)))) (sSeq (sSet 5 false (eOp gMod (eOp gMod (eOp gMulA (eOp gAddA (eOp gMulA (eVar 4) (eVar 4)) (eC (.int 5))) (eC (.int 69621))) (eC (.int 2147483629))) (eC (.int 4)))) (sSeq (sSet 6 false (eLcD (iRng rng1 (aCons (eVar 5) aNil)) (gN 7) [7] tYesD (eCall M__law_number (aCons (eCall M__law_cell_at (aCons (eVar 0) (aCons (eOp gAddA (eOp gAddA (eC (.int 6)) (eOp gMulA (eC (.int 3)) (eVar 3))) (eVar 7)) aNil))) (aCons (eOp gPow (eC (.int 10)) (eC (.int 18))) aNil))))) (sSeq (sIf (tOf (eVar 1)) (sSet 6 false (eLcD (iRng rng1 (aCons (eOp gMod (eVar 5) (eC (.int 3))) aNil)) (gN 7) [7] tYesD (eOp gSub (eOp gMod (eCall M__law_cell_at (aCons (eVar 0) (aCons (eOp gAddA (eOp gAddA (eC (.int 6)) (eOp gMulA (eC (.int 3)) (eVar 3))) (eVar 7)) aNil))) (eC (.int 3))) (eC (.int 1))))) sNil) (sApp 2 (eCall M__law_cut (aCons (eVar 6) aNil)))))))
theorem part_turn {ns : List Int} {far : Bool} {ls : List (List Int)} {i : Nat} (hi : i ≤ 4) (hl : ls.length ≤ 10) (z4 z5 z6 z7 : S) : ∃ (l : List Int) (y4 y5 y6 : S), partTurn [scrS ns, .vl true (.fz (.bl far)), .vl true (.ls (oL ls)), VI i, z4, z5, z6, z7] = .nx [scrS ns, .vl true (.fz (.bl far)), .vl true (.ls (oL (ls ++ [l]))), VI i, y4, y5, y6, z7] ∧ trim l = l ∧ l.length ≤ 3 ∧ BL 60 l := by
  have r1 := fmod_rg (a := cellAt ns (6 + 3 * i)) (b := 2147483647) (by omega)
  generalize hx : (cellAt ns (6 + 3 * i)).fmod 2147483647 = x at *
  have mi : gMulA (I 3) (I i) = .ok (.nw (I (3 * i))) := gMul_lt 2 8 (by decide) (by omega) (by omega) (by omega) (by omega)
  have m1 : gMulA (I x) (I x) = .ok (.nw (I (x * x))) := gMul_lt 31 31 (by omega) (by omega) (by omega) (by omega) (by omega)
  have lx : (x * x + 5).natAbs < 2 ^ 63 := natAbs_add_lt (m := 62) (natAbs_mul_lt (m := 31) (n := 31) (by omega) (by omega) (by omega)) (by decide) (by omega)
  have m2 : gMulA (I (x * x + 5)) (I 69621) = .ok (.nw (I ((x * x + 5) * 69621))) := gMul_lt 63 17 lx (by decide) (by omega) (by omega) (by omega)
  have r2 := fmod_rg (a := ((x * x + 5) * 69621).fmod 2147483629) (b := 4) (by omega)
  obtain ⟨m, hm⟩ : ∃ m : Nat, (((x * x + 5) * 69621).fmod 2147483629).fmod 4 = m := ⟨((((x * x + 5) * 69621).fmod 2147483629).fmod 4).toNat, by omega⟩
  have e3i : ∀ {r : Env}, r[3]? = some (VI i) → eOp gAddA (eC (.int 6)) (eOp gMulA (eC (.int 3)) (eVar 3)) r = .ok (.nw (I (6 + 3 * i))) := fun {r} hr => e_add (eC_ev _) ((op_of (eC_ev _) (y := .nw (I i)) (k := eVar 3) (by rw [var_of hr]; rfl)).trans mi)
  have e4 : eOp gMod (eCall M__law_cell_at (aCons (eVar 0) (aCons (eOp gAddA (eC (.int 6)) (eOp gMulA (eC (.int 3)) (eVar 3))) aNil))) (eC (.int 2147483647)) [scrS ns, .vl true (.fz (.bl far)), .vl true (.ls (oL ls)), VI i, z4, z5, z6, z7] = .ok (.nw (I x)) := by
    rw [e_mod (cell_e (k := 6 + 3 * i) (by omega) (e3i rfl)) (by omega), hx]
  have e5 : eOp gMod (eOp gMod (eOp gMulA (eOp gAddA (eOp gMulA (eVar 4) (eVar 4)) (eC (.int 5))) (eC (.int 69621))) (eC (.int 2147483629))) (eC (.int 4)) [scrS ns, .vl true (.fz (.bl far)), .vl true (.ls (oL ls)), VI i, VI x, z5, z6, z7] = .ok (.nw (I m)) := by
    have q1 : eOp gMulA (eVar 4) (eVar 4) [scrS ns, .vl true (.fz (.bl far)), .vl true (.ls (oL ls)), VI i, VI x, z5, z6, z7] = .ok (.nw (I (x * x))) := (op_of (x := .nw (I x)) (y := .nw (I x)) rfl rfl).trans m1
    have q2 := (op_of (e_add q1 (eC_ev (d := .int 5) (r := [scrS ns, .vl true (.fz (.bl far)), .vl true (.ls (oL ls)), VI i, VI x, z5, z6, z7]))) (eC_ev (d := .int 69621) (r := [scrS ns, .vl true (.fz (.bl far)), .vl true (.ls (oL ls)), VI i, VI x, z5, z6, z7]))).trans m2
    rw [e_mod (e_mod q2 (by omega)) (by omega), hm]
  have e6 : eLcD (iRng rng1 (aCons (eVar 5) aNil)) (gN 7) [7] tYesD (eCall M__law_number (aCons (eCall M__law_cell_at (aCons (eVar 0) (aCons (eOp gAddA (eOp gAddA (eC (.int 6)) (eOp gMulA (eC (.int 3)) (eVar 3))) (eVar 7)) aNil))) (aCons (eOp gPow (eC (.int 10)) (eC (.int 18))) aNil))) [scrS ns, .vl true (.fz (.bl far)), .vl true (.ls (oL ls)), VI i, VI x, VI m, z6, z7] = .ok (.nw (nO ((List.range m).map fun j => lawNumM (cellAt ns (6 + 3 * i + (j : Nat))) (10 ^ 18)))) := by
    rw [lcD_gen (v := fun (j : Nat) => I (lawNumM (cellAt ns (6 + 3 * i + (j : Nat))) (10 ^ 18))) (n := m) (g := fun (k : Nat) => intR (k : Int)) (rng_ok rfl (by omega)) (by simp) (fun j hj => ⟨[scrS ns, .vl true (.fz (.bl far)), .vl true (.ls (oL ls)), VI i, VI x, VI m, z6, VI j], by simp [wipeE, intR], call2 (x := .nw (I (cellAt ns (6 + 3 * i + (j : Nat))))) (y := .nw (I (10 ^ 18))) (cell_e (by omega) (e_add (e3i rfl) rfl)) (e18 _) (num_ok (by decide) (by decide))⟩) (by omega)]
    simp [iL]
  generalize hys : ((List.range m).map fun j => lawNumM (cellAt ns (6 + 3 * i + (j : Nat))) (10 ^ 18)) = ys at e6
  have lys : ys.length = m := by rw [← hys]; simp
  have bys : BL 60 ys := fun y hy => by
    rw [← hys] at hy
    obtain ⟨j, _, rfl⟩ := List.mem_map.mp hy
    exact num18_lt _
  have key : ∃ (w : List Int), sIf (tOf (eVar 1)) (sSet 6 false (eLcD (iRng rng1 (aCons (eOp gMod (eVar 5) (eC (.int 3))) aNil)) (gN 7) [7] tYesD (eOp gSub (eOp gMod (eCall M__law_cell_at (aCons (eVar 0) (aCons (eOp gAddA (eOp gAddA (eC (.int 6)) (eOp gMulA (eC (.int 3)) (eVar 3))) (eVar 7)) aNil))) (eC (.int 3))) (eC (.int 1))))) sNil [scrS ns, .vl true (.fz (.bl far)), .vl true (.ls (oL ls)), VI i, VI x, VI m, .vl true (lO ys), z7] = .nx [scrS ns, .vl true (.fz (.bl far)), .vl true (.ls (oL ls)), VI i, VI x, VI m, .vl true (lO w), z7] ∧ w.length ≤ 3 ∧ BL 60 w := by
    cases far with
    | false => exact ⟨ys, if_f rfl rfl, by omega, bys⟩
    | true =>
      have r3 := fmod_rg (a := (m : Int)) (b := 3) (by omega)
      obtain ⟨m3, hm3⟩ : ∃ m3 : Nat, (m : Int).fmod 3 = m3 := ⟨((m : Int).fmod 3).toNat, by omega⟩
      refine ⟨(List.range m3).map fun j => (cellAt ns (6 + 3 * i + (j : Nat))).fmod 3 - 1, if_t rfl (set_go (x := .nw (nO ((List.range m3).map fun j => (cellAt ns (6 + 3 * i + (j : Nat))).fmod 3 - 1))) ?_ (put_nO _) (by simp)), by simp; omega, fun y hy => ?_⟩
      · rw [lcD_gen (v := fun (j : Nat) => I ((cellAt ns (6 + 3 * i + (j : Nat))).fmod 3 - 1)) (n := m3) (g := fun (k : Nat) => intR (k : Int)) (rng_ok (by rw [aCons_ev, e_mod (a := m) rfl (by omega), hm3]; rfl) (by omega)) (by simp) (fun j hj => ⟨[scrS ns, .vl true (.fz (.bl true)), .vl true (.ls (oL ls)), VI i, VI x, VI m, .vl true (lO ys), VI j], by simp [wipeE, intR], e_sub (e_mod (cell_e (by omega) (e_add (e3i rfl) rfl)) (by omega)) (eC_ev _)⟩) (by omega)]
        simp [iL]
      · obtain ⟨j, _, rfl⟩ := List.mem_map.mp hy
        have := fmod_rg (a := cellAt ns (6 + 3 * i + (j : Nat))) (b := 3) (by omega)
        omega
  obtain ⟨w, hw, lw, bw⟩ := key
  refine ⟨trim w, VI x, VI m, .vl true (lO w), seq_go (set_go e4 rfl (by simp)) (seq_go (set_go e5 rfl (by simp)) (seq_go (set_go e6 (put_nO _) (by simp)) (seq_go hw ?_))), trim_trim _, Nat.le_trans (trim_length_le _) lw, fun y hy => bw y (mem_trim hy)⟩
  rw [app_L (i := 2) (ls := ls) (l := trim w) rfl (call1 (x := .nw (lO w)) rfl (cut_ok (asIL_lst w))) (ra_nO _) (by omega)]; rfl
theorem lastQ_snoc (ls : List (List Int)) (l : List Int) : lastQ (ls ++ [l]) = l := by
  unfold lastQ
  rw [getD_lt (by simp)]
  simp
theorem parts_ok (ns : List Int) : ∃ P : List (List Int), M__law_parts [.fz (.scr ns)] = .ok (.ls (oL P)) ∧ 1 ≤ P.length ∧ P.length ≤ 5 ∧ (∀ l ∈ P, trim l = l ∧ l.length ≤ 3 ∧ BL 60 l) ∧ sgn1 (lastQ P) = true ∧
    (if ((cellAt ns 1).fdiv 4).fmod 3 = 2 then ∀ n, pev n (lastQ P) = 1 else ∀ n : Nat, n ≤ 36 → (pev (n : Int) (lastQ P)).natAbs < 2 ^ 31) := by
  generalize hfar : decide (((cellAt ns 1).fdiv 4).fmod 3 = 2) = far
  have r0 := fmod_rg (a := cellAt ns 0) (b := 5) (by omega)
  obtain ⟨s, hs⟩ : ∃ s : Nat, (cellAt ns 0).fmod 5 = s := ⟨((cellAt ns 0).fmod 5).toNat, by omega⟩
  have e1 : eOp gEq (eOp gMod (eOp gDiv (eCall M__law_cell_at (aCons (eVar 0) (aCons (eC (.int 1)) aNil))) (eC (.int 4))) (eC (.int 3))) (eC (.int 2)) [scrS ns, .un, .un, .un, .un, .un, .un, .un] = .ok (.nw (.fz (.bl far))) := by
    rw [op_of (e_mod (e_div (cell_c (by omega)) (by omega) (by omega)) (by omega)) (eC_ev _), ← hfar]; rfl
  obtain ⟨r', hf, ls, z3, z4, z5, z6, er', ll, hls⟩ := for_gen (fg := gN 3) (F := partTurn) (g := fun (k : Nat) => intR (k : Int)) (n := s) (r := [scrS ns, .vl true (.fz (.bl far)), .vl true (.ls (oL [])), .un, .un, .un, .un, .un])
    (fun k r => ∃ ls z3 z4 z5 z6, r = [scrS ns, .vl true (.fz (.bl far)), .vl true (.ls (oL ls)), z3, z4, z5, z6, .un] ∧ ls.length = k ∧ ∀ l ∈ ls, trim l = l ∧ l.length ≤ 3 ∧ BL 60 l) ⟨[], .un, .un, .un, .un, rfl, rfl, fun _ h => nomatch h⟩ (fun k r hk ⟨ls, z3, z4, z5, z6, hr, ll, hls⟩ => by
      subst hr
      obtain ⟨l, y4, y5, y6, e, l1, l2, l3⟩ := part_turn (ns := ns) (far := far) (ls := ls) (i := k) (by omega) (by omega) z4 z5 z6 .un
      refine ⟨[scrS ns, .vl true (.fz (.bl far)), .vl true (.ls (oL ls)), VI k, z4, z5, z6, .un], _, by simp [intR], e, ls ++ [l], VI k, y4, y5, y6, rfl, by simp [ll], fun q hq => ?_⟩
      rcases List.mem_append.mp hq with h | h
      · exact hls q h
      · have : q = l := by simpa using h
        rw [this]; exact ⟨l1, l2, l3⟩)
  subst er'
  have pre : ∀ {o : Out}, sSeq (sIf (tOf (eVar 1)) (sRet (eOp gAddA (eVar 2) (eLst (aCons (eLst (aCons (eC (.int 1)) aNil)) aNil)))) sNil) (sRet (eOp gAddA (eVar 2) (eLst (aCons (eCall M__law_last (aCons (eCall M__law_cell_at (aCons (eVar 0) (aCons (eC (.int 4)) aNil))) aNil)) aNil)))) [scrS ns, .vl true (.fz (.bl far)), .vl true (.ls (oL ls)), z3, z4, z5, z6, .un] = o → B__law_parts (startE 8 [.fz (.scr ns)]) = o := fun {o} hq => by
    unfold B__law_parts
    refine seq_go (r' := [scrS ns, .vl true (.fz (.bl far)), .un, .un, .un, .un, .un, .un]) (set_go e1 rfl (by simp [startE])) (seq_go (r' := [scrS ns, .vl true (.fz (.bl far)), .vl true (.ls (oL [])), .un, .un, .un, .un, .un]) (set_go (x := .nw (.ls (oL []))) rfl rfl (by simp)) (seq_go (for_go (rng_ok (n := s) ?_ (by omega)) hf) hq))
    rw [aCons_ev, e_mod (cell_c (by omega)) (by omega), hs]; rfl
  have tf : tOf (eVar 1) [scrS ns, .vl true (.fz (.bl far)), .vl true (.ls (oL ls)), z3, z4, z5, z6, .un] = .ok far := rfl
  have all : ∀ {l : List Int}, trim l = l ∧ l.length ≤ 3 ∧ BL 60 l → ∀ q ∈ ls ++ [l], trim q = q ∧ q.length ≤ 3 ∧ BL 60 q := fun {l} hl q hq => by
    rcases List.mem_append.mp hq with h | h
    · exact hls q h
    · have : q = l := by simpa using h
      rw [this]; exact hl
  by_cases hF : ((cellAt ns 1).fdiv 4).fmod 3 = 2
  · rw [decide_eq_true hF] at hfar
    subst hfar
    refine ⟨ls ++ [[1]], ?_, by simp, by simp; omega, all ⟨rfl, by simp, fun z hz => by
      have : z = 1 := by simpa using hz
      subst this; decide⟩, by rw [lastQ_snoc]; rfl, by rw [if_pos hF, lastQ_snoc]; intro n; simp [pev]⟩
    show runF 8 B__law_parts _ = _
    refine run_ret (pre (seq_ret (if_t tf (ret_go ?_))))
    have el : eLst (aCons (eLst (aCons (eC (.int 1)) aNil)) aNil) [scrS ns, .vl true (.fz (.bl true)), .vl true (.ls (oL ls)), z3, z4, z5, z6, .un] = .ok (.nw (.ls (oL [[1]]))) := rfl
    rw [op_of (x := .vw (.ls (oL ls))) rfl el]
    exact cat_L (.inl rfl) (.inr (by rw [ra_nw, er_oL])) (by simp; omega)
  · rw [decide_eq_false hF] at hfar
    subst hfar
    obtain ⟨l, z, hz, ez, l1, l2, l3, l4, l5⟩ := last_ok (cellAt ns 4)
    refine ⟨ls ++ [l], ?_, by simp, by simp; omega, all ⟨l1, l2, l3⟩, by rw [lastQ_snoc]; exact l4, by rw [if_neg hF, lastQ_snoc]; exact l5⟩
    show runF 8 B__law_parts _ = _
    refine run_ret (pre (seq_go (if_f tf rfl) (ret_go ?_)))
    have el : eLst (aCons (eCall M__law_last (aCons (eCall M__law_cell_at (aCons (eVar 0) (aCons (eC (.int 4)) aNil))) aNil)) aNil) [scrS ns, .vl true (.fz (.bl false)), .vl true (.ls (oL ls)), z3, z4, z5, z6, .un] = .ok (.nw (.ls (oL [l]))) := by
      have e := call1 (M := M__law_last) (cell_c (ns := ns) (r := [.vl true (.fz (.bl false)), .vl true (.ls (oL ls)), z3, z4, z5, z6, .un]) (k := 4) (by omega)) hz
      have ea : (R.nw z).a = lO l := by rw [ra_nw, asIL_er ez]
      simp only [eLst, aCons_ev, e, res_ok, aNil_ev, ea]; rfl
    rw [op_of (x := .vw (.ls (oL ls))) rfl el]
    exact cat_L (.inl rfl) (.inr (by rw [ra_nw, er_oL])) (by simp; omega)
/-! the rule -/
theorem rl_snoc (x : Int) : ∀ (xs : List Int) (P : List (List Int)), rl P (xs ++ [x]) = (rl P xs).map fun p => pmul p [-x, 1]
  | [], P => rfl
  | y :: ys, P => by rw [List.cons_append, rl, rl_snoc x ys, rl]
theorem lrule_ok {P : List (List Int)} {roots : List Int} (h1 : 1 ≤ P.length) (h5 : P.length ≤ 5) (h3 : roots.length ≤ 3) (hr : ∀ x ∈ roots, 0 ≤ x ∧ x < 60) (hs : Rs 0 P) : M__law_rule [.fz (LD P), lO roots] = .ok (.fz (LD (rl P roots))) := by
  obtain ⟨r', hf, z3, z4, er'⟩ := for_gen (fg := gN 3) (F := sSet 2 false (eLcD (iLst (eVar 2)) (gN 4) [4] tYesD (eCall M__law_product (aCons (eVar 4) (aCons (eLst (aCons (eUn gNeg (eVar 3)) (aCons (eC (.int 1)) aNil))) aNil))))) (g := fun k => intR (roots.getD k 0)) (n := roots.length) (r := [.vl false (.fz (LD P)), .vl false (lO roots), .vl true (.fz (LD P)), .un, .un])
    (fun k r => ∃ z3 z4, r = [.vl false (.fz (LD P)), .vl false (lO roots), .vl true (.fz (LD (rl P (roots.take k)))), z3, z4]) ⟨.un, .un, rfl⟩ (fun k r hk ⟨z3, z4, hr'⟩ => by
      subst hr'
      have hx := hr _ (getD_mem (d := 0) hk)
      have hrs := rl_sh (roots.take k) 0 P h1 (by rw [List.length_take]; omega) (fun y hy => hr y (List.mem_of_mem_take hy)) hs
      have lR := rl_length (roots.take k) P
      have e : rl P (roots.take (k + 1)) = (rl P (roots.take k)).map fun p => pmul p [-(roots.getD k 0), 1] := by
        rw [List.take_succ_eq_append_getElem hk, rl_snoc, getD_lt hk]
      generalize roots.getD k 0 = x at *
      generalize hRk : rl P (roots.take k) = Rk at *
      have lk : (roots.take k).length ≤ 3 := by rw [List.length_take]; omega
      refine ⟨[.vl false (.fz (LD P)), .vl false (lO roots), .vl true (.fz (LD Rk)), VI x, z4], [.vl false (.fz (LD P)), .vl false (lO roots), .vl true (.fz (LD (Rk.map fun p => pmul p [-x, 1]))), VI x, z4], by simp [intR], set_go (x := .nw (.ls ((Rk.map fun p => pmul p [-x, 1]).map nO))) ?_ (by rw [put_nwF, er_nOs]) (by simp), VI x, z4, by rw [e]⟩
      rw [lcD_gen (v := fun k => nO (pmul (Rk.getD k []) [-x, 1])) (iLst_L (i := 2) (w := true) rfl (.inr rfl) (.inr rfl)) (by simp) (fun j hj => ⟨[.vl false (.fz (LD P)), .vl false (lO roots), .vl true (.fz (LD Rk)), VI x, .vl true (lO (Rk.getD j []))], by simp [wipeE], ?_⟩) (by omega)]
      · congr 3
        refine List.ext_getElem? fun j => ?_
        by_cases h : j < Rk.length
        · simp [h]
        · simp [h]
      · obtain ⟨_, g1, g2⟩ := hrs.t _ (getD_mem (d := []) hj)
        exact call2 (x := .nw (lO (Rk.getD j []))) (y := .nw (nO [-x, 1])) rfl (by simp [eLst, eVar, allFz, iL]) (by rw [ra_nO]; exact prc_ok (asIL_lst _) (asIL_lst _) (by omega) (by simp) g2 (lin_lt hx) (by omega) (by omega)))
  subst er'
  rw [List.take_length] at hf
  show runF 5 B__law_rule _ = _
  unfold B__law_rule
  exact run_ret (seq_go (r' := [.vl false (.fz (LD P)), .vl false (lO roots), .vl true (.fz (LD P)), .un, .un]) (set_go (x := .nw (.fz (LD P))) rfl rfl (by simp [startE])) (seq_go (for_go (iLst_fz (i := 1) (w := false) rfl) hf) (ret_go rfl)))
/-! the values drawn and told -/
theorem gIn_ev (n : Int) (xs : List Int) : gIn (I n) (lO xs) = .ok (.nw (.fz (.bl (decide (n ∈ xs))))) := by
  have e1 : py (er (I n)) = some (.int n) := rfl
  have e2 : py (er (lO xs)) = some (.list (xs.map .int)) := py_lD xs
  have h : (xs.map PySem.PyData.int).any (fun z => PySem.PyData.eqv z (.int n)) = decide (n ∈ xs) := by
    rw [List.any_map]
    by_cases hm : n ∈ xs
    · rw [decide_eq_true hm, List.any_eq_true]
      exact ⟨n, hm, by simp only [Function.comp]; rw [eqv_int, decide_eq_true rfl]⟩
    · rw [decide_eq_false hm, List.any_eq_false]
      intro y hy
      simp only [Function.comp]
      rw [eqv_int, decide_eq_false (fun z => hm (by rw [← z]; exact hy))]
      decide
  unfold gIn
  simp only [e1, e2, shaped_int, shaped_lD, Bool.and_self, if_true, h]
  rfl
abbrev valTurn : FS := (sSeq (sSet 6 false (eOp gAddA (eOp gSub (eVar 5) (eB gLen (aCons (eVar 0) aNil))) (eC (.int 1)))) (sIf (tOrD (tOf (eOp gLt (eVar 6) (eC (.int 0)))) (tOf (eOp gIn (eVar 6) (eVar 1)))) (sApp 4 (eCall M__law_fraction (aCons (eIx (eOp gAddA (eVar 2) (eLst (aCons (eVar 5) aNil))) (eOp gMod (eVar 5) (eOp gAddA (eB gLen (aCons (eVar 2) aNil)) (eC (.int 1))))) aNil))) (sSeq (sAsgT (gT [(gN 7), (gN 8)]) (eCall M__law_weighed (aCons (eSl (eVar 0) pNone (pSome (eUn gNeg (eC (.int 1))))) (aCons (eVar 4) (aCons (eVar 6) aNil))))) (sApp 4 (eCall M__law_lowest (aCons (eUn gNeg (eVar 7)) (aCons (eOp gMulA (eVar 8) (eCall M__law_value (aCons (eIx (eVar 0) (eUn gNeg (eC (.int 1)))) (aCons (eVar 6) aNil)))) aNil)))))))
def drawn (cells : List Int) (i : Nat) : Int := (cells ++ [(i : Int)]).getD (i % (cells.length + 1)) 0
theorem part_kp (h : Par P roots dr K c) {k n : Nat} (hk : k ≤ K) (hn : n + P.dropLast.length ≤ k) : kpOk P.dropLast (sq P roots dr k) n = true := by
  have h5 := h.p5
  have h100 := h.K100
  have hlen := sq_length P roots dr k
  have lD : P.dropLast.length = P.length - 1 := List.length_dropLast
  have lv := win_length P.dropLast (vs := sq P roots dr k) (n := n) (by rw [hlen]; exact hn)
  have bws : BL 84 (P.dropLast.map (pev (n : Int))) := fun y hy => by
    obtain ⟨l, hl, rfl⟩ := List.mem_map.mp hy
    obtain ⟨_, g1, g2⟩ := h.sh l ((List.dropLast_sublist P).subset hl)
    exact ws_lt (by omega) g1 g2
  have hvA : ∀ p ∈ vAt P.dropLast (sq P roots dr k) n, p.1.natAbs < 2 ^ 12000 ∧ p.2.natAbs < 2 ^ 12000 := fun p hp => by
    obtain ⟨_, _, q1, q2⟩ := sq_sz h hk p (List.mem_of_mem_drop (List.mem_of_mem_take hp))
    exact ⟨q1, lt_up q2 (by omega)⟩
  unfold kpOk
  rw [decide_eq_true (show (sq P roots dr k).length ≤ 10000 by rw [hlen]; omega), wOk_of 84 12000 (by omega) (by omega) (by rw [List.length_map, lv]) (by rw [List.length_map, lD]; omega) bws hvA]
  rw [List.all_eq_true.mpr fun l hl => by
    obtain ⟨_, g1, g2⟩ := h.sh l ((List.dropLast_sublist P).subset hl)
    exact valOk_of 60 (by omega) (by omega) (by omega) g2 (by omega)]
  rfl
theorem bot_lt {ws : List Int} {vs : List (Int × Int)} {b : Nat} : ∀ (t b0 : Int) (q : Nat), (∀ p ∈ vs, p.2.natAbs < 2 ^ b) → b0.natAbs < 2 ^ q → (wgh ws vs (t, b0)).2.natAbs < 2 ^ (q + b * ws.length) := by
  induction ws generalizing vs with
  | nil => intro t b0 q _ hb; simpa [wgh] using hb
  | cons x ws ih =>
    intro t b0 q hv hb
    cases vs with
    | nil => simp only [wgh]; exact lt_up hb (by omega)
    | cons v vs =>
      simp only [wgh, List.length_cons]
      have := ih (vs := vs) (t * v.2 + x * v.1 * b0) (b0 * v.2) (q + b) (fun p hp => hv p (by simp [hp])) (natAbs_mul_lt hb (hv v (by simp)) (Nat.le_refl _))
      rw [Nat.mul_add, Nat.mul_one]
      exact lt_up this (by omega)
theorem values_ok (h : Par P roots dr K c) {cells : List Int} (hc : cells.length ≤ 100) (hd : ∀ i, M__law_fraction [I (drawn cells i)] = .ok (.fz (fD (dr i)))) {many : Nat} (hm : many ≤ K) : M__law_values [.fz (LD P), lO roots, lO cells, I many] = .ok (.ls (oV (sq P roots dr many))) := by
  have h1 := h.p1
  have h5 := h.p5
  have h100 := h.K100
  have h31 := h.c31
  generalize hA : S.vl false (.fz (LD P)) = A
  generalize hB : S.vl false (lO roots) = B
  generalize hC : S.vl false (lO cells) = C
  have hA0 : ∀ {r : Env}, (A :: r)[0]? = some (.vl false (.fz (LD P))) := fun {r} => by rw [← hA]; rfl
  have v0 : ∀ {r : Env}, eVar 0 (A :: r) = .ok (.nw (.fz (LD P))) := fun {r} => by rw [← hA]; rfl
  have v1 : ∀ {r : Env}, eVar 1 (A :: B :: r) = .ok (.nw (lO roots)) := fun {r} => by rw [← hB]; rfl
  have v2 : ∀ {r : Env}, eVar 2 (A :: B :: C :: r) = .ok (.nw (lO cells)) := fun {r} => by rw [← hC]; rfl
  have st : startE 9 [.fz (LD P), lO roots, lO cells, I many] = [A, B, C, .vl false (I many), .un, .un, .un, .un, .un] := by rw [← hA, ← hB, ← hC]; rfl
  have eLast : ∀ {r : Env}, eIx (eVar 0) (eUn gNeg (eC (.int 1))) (A :: r) = .ok (.nw (lO (lastQ P))) := fun {r} => by
    rw [ix_lastL (i := 0) (w := false) hA0 (by simp) (by omega), lastQ, getD_lt (by omega)]
  obtain ⟨r', hf, z5, z6, z7, z8, er'⟩ := for_gen (fg := gN 5) (F := valTurn) (g := fun (k : Nat) => intR (k : Int)) (n := many) (r := [A, B, C, .vl false (I many), .vl true (.ls (oV (sq P roots dr 0))), .un, .un, .un, .un])
    (fun k r => ∃ z5 z6 z7 z8, r = [A, B, C, .vl false (I many), .vl true (.ls (oV (sq P roots dr k))), z5, z6, z7, z8]) ⟨.un, .un, .un, .un, rfl⟩ (fun k r hk ⟨z5, z6, z7, z8, hr⟩ => by
      subst hr
      have hlen := sq_length P roots dr k
      generalize hn : (k : Int) - P.length + 1 = n
      have e6 : eOp gAddA (eOp gSub (eVar 5) (eB gLen (aCons (eVar 0) aNil))) (eC (.int 1)) [A, B, C, .vl false (I many), .vl true (.ls (oV (sq P roots dr k))), VI k, z6, z7, z8] = .ok (.nw (I n)) := by
        rw [← hn]; exact e_add (e_sub (a := k) rfl (len_L (i := 0) (w := false) hA0 (.inr rfl))) (eC_ev _)
      have t1 : tOf (eOp gLt (eVar 6) (eC (.int 0))) [A, B, C, .vl false (I many), .vl true (.ls (oV (sq P roots dr k))), VI k, VI n, z7, z8] = .ok (decide (n < 0)) := t_lt rfl (eC_ev _)
      have t2 : tOf (eOp gIn (eVar 6) (eVar 1)) [A, B, C, .vl false (I many), .vl true (.ls (oV (sq P roots dr k))), VI k, VI n, z7, z8] = .ok (decide (n ∈ roots)) := by
        rw [tOf_ev, op_of (x := .nw (I n)) rfl v1, ra_nw, er_fz]
        show (gIn (I n) (lO roots)).bind toB = _
        rw [gIn_ev]; rfl
      by_cases hcond : n < 0 ∨ n ∈ roots
      · have tt : tOrD (tOf (eOp gLt (eVar 6) (eC (.int 0)))) (tOf (eOp gIn (eVar 6) (eVar 1))) [A, B, C, .vl false (I many), .vl true (.ls (oV (sq P roots dr k))), VI k, VI n, z7, z8] = .ok true := by
          rw [tOr_ev, t1, res_ok, t2]
          by_cases h0 : n < 0
          · simp [h0]
          · simp [h0, hcond.resolve_left h0]
        have hnx : nx P roots dr k (sq P roots dr k) = dr k := by unfold nx; rw [hn, if_pos hcond]
        refine ⟨[A, B, C, .vl false (I many), .vl true (.ls (oV (sq P roots dr k))), VI k, z6, z7, z8], [A, B, C, .vl false (I many), .vl true (.ls (oV (sq P roots dr (k + 1)))), VI k, VI n, z7, z8], by simp [intR], seq_go (r' := [A, B, C, .vl false (I many), .vl true (.ls (oV (sq P roots dr k))), VI k, VI n, z7, z8]) (set_go e6 rfl (by simp)) (if_t tt ?_), _, _, _, _, rfl⟩
        have hcell : eIx (eOp gAddA (eVar 2) (eLst (aCons (eVar 5) aNil))) (eOp gMod (eVar 5) (eOp gAddA (eB gLen (aCons (eVar 2) aNil)) (eC (.int 1)))) [A, B, C, .vl false (I many), .vl true (.ls (oV (sq P roots dr k))), VI k, VI n, z7, z8] = .ok (.nw (I (drawn cells k))) := by
          have q1 : eOp gAddA (eVar 2) (eLst (aCons (eVar 5) aNil)) [A, B, C, .vl false (I many), .vl true (.ls (oV (sq P roots dr k))), VI k, VI n, z7, z8] = .ok (.nw (nO (cells ++ [(k : Int)]))) := by
            have : eLst (aCons (eVar 5) aNil) [A, B, C, .vl false (I many), .vl true (.ls (oV (sq P roots dr k))), VI k, VI n, z7, z8] = .ok (.nw (nO [(k : Int)])) := rfl
            rw [op_of v2 this, ra_nO]
            exact cat_IL (asIL_lst _) (asIL_lst _) (by simp; omega)
          have q2 : eOp gMod (eVar 5) (eOp gAddA (eB gLen (aCons (eVar 2) aNil)) (eC (.int 1))) [A, B, C, .vl false (I many), .vl true (.ls (oV (sq P roots dr k))), VI k, VI n, z7, z8] = .ok (.nw (I ((k % (cells.length + 1) : Nat) : Int))) := by
            rw [op_of (x := .nw (I k)) rfl (e_add (len_slot (i := 2) (w := false) (by rw [← hC]; rfl) (asIL_lst cells)) (eC_ev _))]
            show gMod (I k) (I (cells.length + 1)) = _
            rw [gMod_ev (by omega), show (cells.length : Int) + 1 = ((cells.length + 1 : Nat) : Int) by omega, fmod_nat]
          have hlt : k % (cells.length + 1) < (cells ++ [(k : Int)]).length := by simp; exact Nat.mod_lt _ (by omega)
          have := ix_IL (i := k % (cells.length + 1)) (k := ((k % (cells.length + 1) : Nat) : Int)) q1 (by rw [ra_nO]; exact asIL_lst _) q2 rfl hlt
          rw [this, drawn, getD_lt hlt]
        rw [app_V (i := 4) (vs := sq P roots dr k) (p := dr k) rfl (call1 hcell (hd k)) (by omega), sq, hnx]; rfl
      · obtain ⟨m, hm2⟩ : ∃ m : Nat, n = m := ⟨n.toNat, by omega⟩
        subst hm2
        have hkm : k + 1 - P.length = m := by omega
        have lDr : P.dropLast.length = P.length - 1 := List.length_dropLast
        have tt : tOrD (tOf (eOp gLt (eVar 6) (eC (.int 0)))) (tOf (eOp gIn (eVar 6) (eVar 1))) [A, B, C, .vl false (I many), .vl true (.ls (oV (sq P roots dr k))), VI k, VI m, z7, z8] = .ok false := by
          rw [not_or] at hcond
          rw [tOr_ev, t1, res_ok, t2, decide_eq_false hcond.1, decide_eq_false hcond.2]; rfl
        have hnx : nx P roots dr k (sq P roots dr k) = (rtop (-(wgh (P.dropLast.map (pev (m : Int))) (vAt P.dropLast (sq P roots dr k) m) (0, 1)).1) ((wgh (P.dropLast.map (pev (m : Int))) (vAt P.dropLast (sq P roots dr k) m) (0, 1)).2 * pev (m : Int) (lastQ P)), rbot (-(wgh (P.dropLast.map (pev (m : Int))) (vAt P.dropLast (sq P roots dr k) m) (0, 1)).1) ((wgh (P.dropLast.map (pev (m : Int))) (vAt P.dropLast (sq P roots dr k) m) (0, 1)).2 * pev (m : Int) (lastQ P))) := by
          unfold nx
          rw [hn, hkm, if_neg hcond]
        obtain ⟨D, hD, _, hin⟩ := sq_inv h k (by omega)
        have lvA := win_length P.dropLast (vs := sq P roots dr k) (n := m) (by rw [hlen, lDr]; omega)
        have bws : BL 84 (P.dropLast.map (pev (m : Int))) := fun y hy => by
          obtain ⟨l, hl, rfl⟩ := List.mem_map.mp hy
          obtain ⟨_, g1, g2⟩ := h.sh l ((List.dropLast_sublist P).subset hl)
          exact ws_lt (by omega) g1 g2
        obtain ⟨_, _, bpos, _⟩ := wgh_lin (D := D) (a := 300 + 110 * k) (b := 84) (P.dropLast.map (pev (m : Int))) (vAt P.dropLast (sq P roots dr k) m) 0 1 0 (300 + 110 * k + 84) (by rw [List.length_map, lvA]) bws (fun p hp => hin p (List.mem_of_mem_drop (List.mem_of_mem_take hp))) (by simp) (by omega) (by simp; exact Nat.two_pow_pos _) (by omega)
        have hbd := bot_lt (ws := P.dropLast.map (pev (m : Int))) (vs := vAt P.dropLast (sq P roots dr k) m) (b := 1101) 0 1 1 (fun p hp => (sq_sz h (show k ≤ K by omega) p (List.mem_of_mem_drop (List.mem_of_mem_take hp))).2.2.2) (by decide)
        rw [List.length_map, lDr] at hbd
        have hbd2 := lt_up hbd (show 1 + 1101 * (P.length - 1) ≤ 4500 by omega)
        obtain ⟨w1, w2⟩ := h.w m (by omega)
        have ew := lweighed_ok2 (p := .ls (oV (sq P roots dr k))) (.inl rfl) (wkOk_of (ls := P.dropLast) (vs := sq P roots dr k) (n := m) (by rw [hlen, lDr]; omega) (by omega) (part_kp h (by omega) (by rw [lDr]; omega)))
        have esl : eSl (eVar 0) pNone (pSome (eUn gNeg (eC (.int 1)))) [A, B, C, .vl false (I many), .vl true (.ls (oV (sq P roots dr k))), VI k, VI m, z7, z8] = .ok (.nw (.ls (oL P.dropLast))) := by
          have := sl_D (f := eVar 0) (l := pNone) (h := pSome (eUn gNeg (eC (.int 1)))) (r := [A, B, C, .vl false (I many), .vl true (.ls (oV (sq P roots dr k))), VI k, VI m, z7, z8]) (xs := P) (k := lD) (lo := none) (hi := some (-1)) v0 rfl rfl (by omega)
          rw [cut_butlast] at this
          exact this
        generalize wgh (P.dropLast.map (pev (m : Int))) (vAt P.dropLast (sq P roots dr k) m) (0, 1) = tb at *
        obtain ⟨t, b⟩ := tb
        simp only at bpos hbd2 hnx
        generalize hw0 : pev (m : Int) (lastQ P) = w at *
        have bw : w.natAbs < 2 ^ 31 := lt_up w2 h31
        have e78 : eCall M__law_weighed (aCons (eSl (eVar 0) pNone (pSome (eUn gNeg (eC (.int 1))))) (aCons (eVar 4) (aCons (eVar 6) aNil))) [A, B, C, .vl false (I many), .vl true (.ls (oV (sq P roots dr k))), VI k, VI m, z7, z8] = .ok (.nw (.fz (fD (t, b)))) :=
          call3 (f := eSl (eVar 0) pNone (pSome (eUn gNeg (eC (.int 1))))) (g := eVar 4) (k := eVar 6) (y := .vw (.ls (oV (sq P roots dr k)))) (z := .nw (I m)) esl rfl rfl (by rw [ra_nw, er_oL]; exact ew)
        have ev : eCall M__law_value (aCons (eIx (eVar 0) (eUn gNeg (eC (.int 1)))) (aCons (eVar 6) aNil)) [A, B, C, .vl false (I many), .vl true (.ls (oV (sq P roots dr k))), VI k, VI m, VI t, VI b] = .ok (.nw (I w)) := by
          rw [← hw0]
          obtain ⟨_, g1, g2⟩ := h.sh _ (getD_mem (xs := P) (k := P.length - 1) (d := []) (by omega))
          exact call2 (x := .nw (lO (lastQ P))) (y := .nw (I m)) eLast rfl (lvalue_ok (asIL_lst _) (valOk_of 60 (by omega) (by omega) (by show (lastQ P).length ≤ _; unfold lastQ; omega) g2 (by omega)))
        have mm : gMulA (I b) (I w) = .ok (.nw (I (b * w))) := gMul_lt 4500 31 hbd2 bw (by omega) (by omega) (by omega)
        have elow := call2 (M := M__law_lowest) (f := eUn gNeg (eVar 7)) (g := eOp gMulA (eVar 8) (eCall M__law_value (aCons (eIx (eVar 0) (eUn gNeg (eC (.int 1)))) (aCons (eVar 6) aNil)))) (r := [A, B, C, .vl false (I many), .vl true (.ls (oV (sq P roots dr k))), VI k, VI m, VI t, VI b]) (x := .nw (I (-t))) (y := .nw (I (b * w))) rfl ((op_of (x := .nw (I b)) rfl ev).trans mm) (lowest_ok (Int.mul_ne_zero (by omega) w1) (lt_up (natAbs_mul_lt (m := 4500) (n := 31) hbd2 bw (Nat.le_refl _)) (by omega)))
        refine ⟨[A, B, C, .vl false (I many), .vl true (.ls (oV (sq P roots dr k))), VI k, z6, z7, z8], [A, B, C, .vl false (I many), .vl true (.ls (oV (sq P roots dr (k + 1)))), VI k, VI m, VI t, VI b], by simp [intR], seq_go (r' := [A, B, C, .vl false (I many), .vl true (.ls (oV (sq P roots dr k))), VI k, VI m, z7, z8]) (set_go e6 rfl (by simp)) (if_f tt (seq_go (r' := [A, B, C, .vl false (I many), .vl true (.ls (oV (sq P roots dr k))), VI k, VI m, VI t, VI b]) (asgT_go e78 (tup2_set (a := .int t) (b := .int b) (by simp) (by simp))) ?_)), _, _, _, _, rfl⟩
        rw [app_V (i := 4) (vs := sq P roots dr k) (p := (rtop (-t) (b * w), rbot (-t) (b * w))) rfl elow (by omega), sq, hnx]; rfl)
  subst er'
  show runF 9 B__law_values _ = _
  unfold B__law_values
  refine run_ret ?_
  rw [st]
  exact seq_go (r' := [A, B, C, .vl false (I many), .vl true (.ls (oV (sq P roots dr 0))), .un, .un, .un, .un]) (set_go (x := .nw (.ls (oV []))) rfl rfl (by simp)) (seq_go (for_go (rng_ok (n := many) rfl (by omega)) hf) rfl)
/-! powers -/
theorem next_gen {R : List (List Int)} {ov : O} {vs : List (Int × Int)} {n : Nat} {ws : List Int} {w t b : Int} {z : Int × Int} (hok : okRule R = true) (lR : R.length ≤ 100) (hov : IsV ov vs) (hlen : vs.length ≤ 1000) (hn : n + (R.length - 1) = vs.length) (hval : ∀ l ∈ R, valOk l (n : Int) = true)
    (eW : R.map (pev (n : Int)) = ws ++ [w]) (hM : M_weighed [lO ws, .fz (VD (vs.drop n))] = .ok (.fz (fD (t, b)))) (m1 : gMulA (I b) (I w) = .ok (.nw (I (b * w)))) (hrat : M_ratio [I (-t), I (b * w)] = .ok (.fz (fD z))) : M_next_one [.fz (LD R), ov] = .ok (.fz (fD z)) := by
  have h1 := (okRule_iff.mp hok).1
  have lW := congrArg List.length eW
  simp only [List.length_map, List.length_append, List.length_cons, List.length_nil] at lW
  generalize hA : S.vl false (.fz (LD R)) = A
  generalize hB : S.vl false ov = B
  have hA0 : ∀ {r : Env}, (A :: r)[0]? = some (.vl false (.fz (LD R))) := fun {r} => by rw [← hA]; rfl
  have st : startE 7 [.fz (LD R), ov] = [A, B, .un, .un, .un, .un, .un] := by rw [← hA, ← hB]; rfl
  have v0 : ∀ {r : Env}, eVar 0 (A :: r) = .ok (.nw (.fz (LD R))) := fun {r} => by rw [← hA]; rfl
  have e2 : eOp gSub (eB gLen (aCons (eVar 1) aNil)) (eCallZ M_order_of (aCons (eVar 0) aNil)) [A, B, .un, .un, .un, .un, .un] = .ok (.nw (I n)) := by
    rw [e_sub (len_V (i := 1) (w := false) (by rw [← hB]; rfl) hov) (callZ1 v0 (order_ok hok) rfl), show (vs.length : Int) - (R.length - 1) = n by omega]
  have e3 : eLcD (iLst (eVar 0)) (gN 6) [6] tYesD (eCall M_poly_value (aCons (eVar 6) (aCons (eVar 2) aNil))) [A, B, VI n, .un, .un, .un, .un] = .ok (.nw (nO (R.map (pev (n : Int))))) := by
    rw [lcD_gen (v := fun k => I (pev (n : Int) (R.getD k []))) (iLst_L (i := 0) (w := false) hA0 (.inl rfl) (.inr rfl)) (by simp) (fun k hk => ⟨[A, B, VI n, .un, .un, .un, .vl true (lO (R.getD k []))], by simp [wipeE], call2 (x := .nw (lO (R.getD k []))) (y := .nw (I n)) rfl rfl (value_ok (asIL_lst _) (hval _ (getD_mem hk)))⟩) (by omega)]
    congr 3
    refine List.ext_getElem? fun k => ?_
    by_cases h : k < R.length
    · simp [iL, h]
    · simp [iL, h]
  rw [eW] at e3
  have e45 : eCall M_weighed (aCons (eSl (eVar 3) pNone (pSome (eUn gNeg (eC (.int 1))))) (aCons (eSl (eVar 1) (pSome (eVar 2)) pNone) aNil)) [A, B, VI n, .vl true (lO (ws ++ [w])), .un, .un, .un] = .ok (.nw (.fz (fD (t, b)))) := by
    have s1 := sl_IL (f := eVar 3) (l := pNone) (h := pSome (eUn gNeg (eC (.int 1)))) (r := [A, B, VI n, .vl true (lO (ws ++ [w])), .un, .un, .un]) (x := .nw (lO (ws ++ [w]))) (lo := none) (hi := some (-1)) rfl (asIL_lst _) rfl rfl (by simp; omega)
    rw [cut_butlast, List.dropLast_concat] at s1
    have s2 := sl_V (f := eVar 1) (l := pSome (eVar 2)) (h := pNone) (r := [A, B, VI n, .vl true (lO (ws ++ [w])), .un, .un, .un]) (x := see false ov) (lo := some (n : Int)) (hi := none) (by rw [← hB]; rfl) (by rw [see_a]; exact hov) rfl rfl (by omega)
    rw [cutL_tail] at s2
    exact call2 s1 s2 (by rw [ra_nO, ra_nw, er_oV]; exact hM)
  have e7 : eOp gMulA (eVar 5) (eIx (eVar 3) (eUn gNeg (eC (.int 1)))) [A, B, VI n, .vl true (lO (ws ++ [w])), VI t, VI b, .un] = .ok (.nw (I (b * w))) := by
    have i3 := ix_lastIL (f := eVar 3) (g := eUn gNeg (eC (.int 1))) (r := [A, B, VI n, .vl true (lO (ws ++ [w])), VI t, VI b, .un]) (x := .nw (lO (ws ++ [w]))) rfl (asIL_lst _) (by simp) (by simp)
    simp only [List.length_append, List.length_cons, List.length_nil, Nat.zero_add, Nat.add_sub_cancel, List.getElem_concat_length] at i3
    rw [op_of (x := .nw (I b)) rfl i3]; exact m1
  show runF 7 B_next_one _ = _
  unfold B_next_one
  refine run_ret ?_
  rw [st]
  exact seq_go (r' := [A, B, VI n, .un, .un, .un, .un]) (set_go e2 rfl (by simp)) (seq_go (r' := [A, B, VI n, .vl true (lO (ws ++ [w])), .un, .un, .un]) (set_go e3 (put_nO _) (by simp)) (seq_go (r' := [A, B, VI n, .vl true (lO (ws ++ [w])), VI t, VI b, .un]) (asgT_go e45 (tup2_set (a := .int t) (b := .int b) (by simp) (by simp))) (ret_go (call2 (x := .nw (I (-t))) rfl e7 hrat))))
theorem ratio_one (a : Int) : M_ratio [I a, I 1] = .ok (.fz (fD (a, 1))) := by
  have hs : sgcd a 1 = 1 := by
    unfold sgcd gcdI
    rw [if_neg (by omega), Int.gcd_one_right]; rfl
  have h1 : rtop a 1 = a := by have := rtop_mul a 1; rw [hs] at this; omega
  have h2 : rbot a 1 = 1 := by have := rbot_mul a 1; rw [hs] at this; omega
  show (if (1 : Int) = 0 then Res.exc ⟨"NoNumber", []⟩ else if small9 (sgcd a 1) then .ok (O.fz (.tup [.int (rtop a 1), .int (rbot a 1)])) else .bad) = _
  rw [if_neg (by omega), hs, if_pos (by decide), h1, h2]
def pw (c0 x : Int) (k : Nat) : Int × Int := (c0 * x ^ k, 1)
def pT (c0 x : Int) (k : Nat) : List (Int × Int) := (List.range k).map (pw c0 x)
theorem pw_lt {c0 x : Int} (hc : c0.natAbs < 2 ^ 200) (hx : x.natAbs < 2 ^ 2) (k : Nat) : (c0 * x ^ k).natAbs < 2 ^ (2 * k + 201) := by
  have h : ∀ k : Nat, (x ^ k).natAbs < 2 ^ (2 * k + 1) := fun k => by
    induction k with
    | zero => simp
    | succ k ih => rw [Int.pow_succ]; exact natAbs_mul_lt ih hx (by omega)
  exact natAbs_mul_lt hc (h k) (by omega)
theorem pT_length (c0 x : Int) (k : Nat) : (pT c0 x k).length = k := by simp [pT]
theorem powers_ok (cc : Int) : M__law_powers [I cc] = .ok (.fz (.bl true)) := by
  have r1 := fmod_rg (a := cc) (b := 7) (by omega)
  have r2 := fmod_rg (a := cc.fdiv 7) (b := 10 ^ 60) (by omega)
  have r3 := fmod_rg (a := cc) (b := 2) (by omega)
  generalize hx : cc.fmod 7 - 3 = x at *
  have bx : x.natAbs < 2 ^ 2 := by omega
  generalize hc0 : (cc.fdiv 7).fmod (10 ^ 60) = c0 at *
  have b0 : c0.natAbs < 2 ^ 200 := by
    have : (10 : Int) ^ 60 < 2 ^ 200 := by decide
    omega
  obtain ⟨L, hL⟩ : ∃ L : Nat, 1 + cc.fmod 2 = L := ⟨(1 + cc.fmod 2).toNat, by omega⟩
  have hL2 : L = 1 ∨ L = 2 := by omega
  have bp := fun k => pw_lt (x := x) b0 bx k
  -- the loop
  obtain ⟨r', hf, z4, er'⟩ := for_gen (fg := gN 4) (F := (sSeq (sApp 3 (eTup (aCons (eVar 2) (aCons (eC (.int 1)) aNil)))) (sSet 2 false (eOp gMulA (eVar 2) (eVar 1))))) (g := fun (k : Nat) => intR (k : Int)) (n := 461) (r := [.vl false (I cc), VI x, VI (c0 * x ^ 0), .vl true (.ls (oV (pT c0 x 0))), .un])
    (fun k r => ∃ z, r = [.vl false (I cc), VI x, VI (c0 * x ^ k), .vl true (.ls (oV (pT c0 x k))), z]) ⟨.un, rfl⟩ (fun k r hk ⟨z, hr⟩ => by
      subst hr
      have mm : gMulA (I (c0 * x ^ k)) (I x) = .ok (.nw (I (c0 * x ^ (k + 1)))) := by
        rw [gMul_lt (2 * k + 201) 2 (bp k) bx (by omega) (by omega) (by omega), Int.pow_succ, Int.mul_assoc]
      refine ⟨[.vl false (I cc), VI x, VI (c0 * x ^ k), .vl true (.ls (oV (pT c0 x k))), VI k], [.vl false (I cc), VI x, VI (c0 * x ^ (k + 1)), .vl true (.ls (oV (pT c0 x (k + 1)))), VI k], by simp [intR], seq_go (r' := [.vl false (I cc), VI x, VI (c0 * x ^ k), .vl true (.ls (oV (pT c0 x (k + 1)))), VI k]) ?_ (set_go (x := .nw (I (c0 * x ^ (k + 1)))) ((op_of (x := .nw (I (c0 * x ^ k))) (y := .nw (I x)) rfl rfl).trans mm) rfl (by simp)), VI k, rfl⟩
      have e : pT c0 x (k + 1) = pT c0 x k ++ [pw c0 x k] := by unfold pT; rw [List.range_succ, List.map_append]; rfl
      rw [app_V (i := 3) (vs := pT c0 x k) (p := pw c0 x k) rfl (e_tup (a := c0 * x ^ k) (b := 1) rfl (eC_ev _)) (by rw [pT_length]; omega), e]; rfl)
  subst er'
  -- the rule
  have hR : okRule [trim [-x], [1]] = true := okRule_iff.mpr ⟨by simp, by simp, fun p hp => by
    have : p = trim [-x] ∨ p = [1] := by simpa using hp
    rcases this with e | e
    · rw [e]; exact trim_trim _
    · rw [e]; rfl⟩
  have bl : ∀ l ∈ [trim [-x], [1]], l.length ≤ 1 ∧ BL 3 l := fun l hl => by
    have : l = trim [-x] ∨ l = [1] := by simpa using hl
    rcases this with e | e
    · rw [e]
      refine ⟨trim_length_le [-x], fun y hy => ?_⟩
      have : y = -x := by simpa using mem_trim hy
      omega
    · rw [e]
      exact ⟨by simp, fun y hy => by
        have : y = 1 := by simpa using hy
        omega⟩
  have hev : ∀ n : Int, [trim [-x], [1]].map (pev n) = [-x] ++ [1] := fun n => by
    simp only [List.map_cons, List.map_nil, pev_trim]
    simp [pev]
  have hfirst : M_look_at_first [.fz (LD [trim [-x], [1]]), .fz (VD (pT c0 x L))] = .ok (.fz .non) := by
    refine first_ok (m := 0) hR (by simp) (rcOk_of 3 (by omega) (by omega) (by simp) (bl [1] (by simp)).2) (rch_some (i := 0) (by omega) (by rw [show ((0 : Nat) : Int) = 0 from rfl, pshift_zero]; rfl) fun j hj => by omega) (by rw [pT_length]; simp; omega) (by rw [pT_length]; omega) fun n hn => ?_
    rw [pT_length] at hn
    have hn' : n + 2 ≤ L := hn
    have n0 : n = 0 := by omega
    have hL' : L = 2 := by omega
    subst n0 hL'
    have ev : vAt [trim [-x], [1]] (pT c0 x 2) 0 = [pw c0 x 0, pw c0 x 1] := rfl
    constructor
    · unfold kpOk
      rw [ev, hev]
      rw [decide_eq_true (show (pT c0 x 2).length ≤ 10000 by rw [pT_length]; omega), wOk_of 3 300 (by omega) (by omega) rfl (by simp) (fun y hy => by
        have : y = -x ∨ y = 1 := by simpa using hy
        omega) (fun p hp => by
        have : p = pw c0 x 0 ∨ p = pw c0 x 1 := by simpa using hp
        rcases this with e | e
        · rw [e]; exact ⟨lt_up (bp 0) (by omega), by show (1 : Int).natAbs < _; exact lt_up (m := 1) (by decide) (by omega)⟩
        · rw [e]; exact ⟨lt_up (bp 1) (by omega), by show (1 : Int).natAbs < _; exact lt_up (m := 1) (by decide) (by omega)⟩)]
      rw [List.all_eq_true.mpr fun l hl => valOk_of 3 (by omega) (by omega) (by have := (bl l hl).1; omega) (bl l hl).2 (by decide)]
      rfl
    · unfold kept
      rw [ev, hev]
      show decide ((0 * 1 + -x * (c0 * x ^ 0) * 1) * 1 + 1 * (c0 * x ^ 1) * (1 * 1) = 0) = true
      rw [decide_eq_true_eq]
      grind
  have hcar := carried_ok (R := [trim [-x], [1]]) (T := pT c0 x) (q := pw c0 x) (L := L) (many := 461) (fun k => by unfold pT; rw [List.range_succ, List.map_append]; rfl) (pT_length c0 x) (fun k m hkm => by unfold pT; rw [← List.map_take, List.take_range, Nat.min_eq_left hkm]) (by omega) (by omega) hfirst (fun k hk1 hk2 => by
    have hk : 1 ≤ k := by omega
    have hd : (pT c0 x k).drop (k - 1) = [pw c0 x (k - 1)] := by
      unfold pT
      rw [show k = (k - 1) + 1 by omega, List.range_succ, List.map_append, Nat.add_sub_cancel, List.drop_left' (by simp)]
      rfl
    have hwk : wOk [-x] [pw c0 x (k - 1)] = true := wOk_of 3 2000 (by omega) (by omega) rfl (by simp) (fun y hy => by
        have : y = -x := by simpa using hy
        omega) (fun p hp => by
        have : p = pw c0 x (k - 1) := by simpa using hp
        rw [this]; exact ⟨lt_up (bp (k - 1)) (by omega), by show (1 : Int).natAbs < _; exact lt_up (m := 1) (by decide) (by omega)⟩)
    have hM := weighed_ok hwk
    have e : c0 * x ^ k = -(0 * 1 + -x * (c0 * x ^ (k - 1)) * 1) := by
      conv => lhs; rw [show k = (k - 1) + 1 by omega, Int.pow_succ]
      grind
    refine next_gen (n := k - 1) (ws := [-x]) (w := 1) (t := 0 * 1 + -x * (c0 * x ^ (k - 1)) * 1) (b := 1 * 1) hR (by simp) (.inl rfl) (by rw [pT_length]; omega) (by rw [pT_length]; simp; omega) (fun l hl => valOk_of 3 (by omega) (by omega) (by have := (bl l hl).1; omega) (bl l hl).2 (by omega)) (hev _) (by rw [hd]; exact hM) rfl ?_
    show M_ratio [I (-(0 * 1 + -x * (c0 * x ^ (k - 1)) * 1)), I 1] = _
    rw [← e]
    exact ratio_one _)
  generalize hE : ([.vl false (I cc), VI x, VI (c0 * x ^ 461), .vl true (.ls (oV (pT c0 x 461))), z4] : Env) = E at hf
  show runF 5 B__law_powers _ = _
  unfold B__law_powers
  refine run_ret (seq_go (r' := [.vl false (I cc), VI x, .un, .un, .un]) (set_go (x := .nw (I x)) ?_ rfl (by simp [startE])) (seq_go (r' := [.vl false (I cc), VI x, VI (c0 * x ^ 0), .un, .un]) (set_go (x := .nw (I (c0 * x ^ 0))) ?_ rfl (by simp)) (seq_go (r' := [.vl false (I cc), VI x, VI (c0 * x ^ 0), .vl true (.ls (oV (pT c0 x 0))), .un]) (set_go (x := .nw (.ls (oV []))) rfl rfl (by simp)) (seq_go (for_go (rng_ok (n := 461) rfl (by omega)) hf) (ret_go ?_)))))
  · rw [← hx]; exact e_sub (e_mod (a := cc) rfl (by omega)) (eC_ev _)
  · rw [Int.pow_zero, Int.mul_one, ← hc0]
    rw [op_of (e_div (a := cc) rfl (by omega) (by omega)) (e60 _)]
    exact gMod_ev (by omega)
  · have v1 : eVar 1 E = .ok (.nw (I x)) := by rw [← hE]; rfl
    have v0 : eVar 0 E = .ok (.nw (I cc)) := by rw [← hE]; rfl
    have v3 : eVar 3 E = .ok (.vw (.ls (oV (pT c0 x 461)))) := by rw [← hE]; rfl
    have q1 : eLst (aCons (eUn gNeg (eVar 1)) aNil) E = .ok (.nw (nO [-x])) := by simp [eLst, v1, allFz, iL]
    have q2 := call1 (M := M__law_cut) q1 (by rw [ra_nO]; exact cut_ok (asIL_lst [-x]))
    have q3 : eLst (aCons (eC (.int 1)) aNil) E = .ok (.nw (nO [1])) := by simp [eLst, allFz, iL]
    have q4 : eLst (aCons (eCall M__law_cut (aCons (eLst (aCons (eUn gNeg (eVar 1)) aNil)) aNil)) (aCons (eLst (aCons (eC (.int 1)) aNil)) aNil)) E = .ok (.nw (.ls (oL [trim [-x], [1]]))) := by
      rw [eLst, aCons_ev, q2, res_ok, aCons_ev, q3, res_ok, aNil_ev, res_ok, res_ok, ra_nO, ra_nO]; rfl
    have q5 : eSl (eVar 3) pNone (pSome (eOp gAddA (eC (.int 1)) (eOp gMod (eVar 0) (eC (.int 2))))) E = .ok (.nw (.ls (oV (pT c0 x L)))) := by
      have := sl_V (l := pNone) (h := pSome (eOp gAddA (eC (.int 1)) (eOp gMod (eVar 0) (eC (.int 2))))) (lo := none) (hi := some (L : Int)) v3 (.inl rfl) rfl (by
        have e := e_add (eC_ev (d := .int 1) (r := E)) (e_mod v0 (b := 2) (by omega))
        simp only [pSome, e, hL]; rfl) (by rw [pT_length]; omega)
      rw [cut_hi] at this
      have e : (pT c0 x 461).take L = pT c0 x L := by unfold pT; rw [← List.map_take, List.take_range, Nat.min_eq_left (by omega)]
      rw [e] at this
      exact this
    rw [op_of (call3 q4 q5 (eC_ev (d := .int 461)) (by rw [ra_nw, er_oL, ra_nw, er_oV]; exact hcar)) v3, ra_nw, er_oV, ra_vw]
    exact gEq_same (d := VD (pT c0 x 461)) rfl (er_oV _) (plain_VD 18 _) (fun _ h => by cases h)
/-! the law -/
theorem call4 {M : List O → Res O} {f g k l : FE} {r : Env} {x y z w : R} {o : O} (h : f r = .ok x) (h2 : g r = .ok y) (h3 : k r = .ok z) (h4 : l r = .ok w) (hm : M [x.a, y.a, z.a, w.a] = .ok o) : eCall M (aCons f (aCons g (aCons k (aCons l aNil)))) r = .ok (.nw o) := by
  simp [eCall, h, h2, h3, h4, hm]
theorem hlaw : ∀ ns : List Int, ns.length ≤ 63 → runF 12 B_law [.fz (.scr ns)] = .ok (.fz (.bl true)) := by
  intro ns hns
  obtain ⟨P, hP, p1, p5, psh, pcl, pw⟩ := parts_ok ns
  obtain ⟨roots, hR, r3, rr⟩ := roots_ok ns
  generalize hcells : cutL ns (some 18) (some 63) = cells
  have lc : cells.length ≤ 63 := by rw [← hcells]; exact Nat.le_trans (cutL_length ..) hns
  let dr : Nat → Int × Int := fun i => (frac_ok (drawn cells i)).choose
  have hdr : ∀ i, M__law_fraction [I (drawn cells i)] = .ok (.fz (fD (dr i))) ∧ (dr i).1.natAbs < 2 ^ 200 ∧ 1 ≤ (dr i).2 ∧ (dr i).2 ≤ 1000 ∧ gcdI (dr i).1 (dr i).2 = 1 := fun i => (frac_ok (drawn cells i)).choose_spec
  clear_value dr
  have rr60 : ∀ x ∈ roots, 0 ≤ x ∧ x < 60 := fun x hx => by
    have h := rr x hx
    split at h <;> omega
  have hc0 := pcl
  have hne : ∀ n : Nat, pev (n : Int) (lastQ P) ≠ 0 := fun n => clear_ne (m := 0) (by rw [pshift_zero]; exact pcl) (by omega)
  have rm := fmod_rg (a := cellAt ns 5) (b := 4) (by omega)
  have sp : 0 ≤ maxD 0 (roots.map fun x => x + 1) ∧ maxD 0 (roots.map fun x => x + 1) ≤ (if ((cellAt ns 1).fdiv 4).fmod 3 = 2 then 60 else 6) ∧ ∀ x ∈ roots.map (fun x => x + 1), x ≤ maxD 0 (roots.map fun x => x + 1) := maxD_sp (by split <;> omega) fun x hx => by
    obtain ⟨y, hy, rfl⟩ := List.mem_map.mp hx
    have := rr y hy
    omega
  obtain ⟨M0, hM0⟩ : ∃ M0 : Nat, maxD 0 (roots.map fun x => x + 1) = M0 := ⟨(maxD 0 (roots.map fun x => x + 1)).toNat, by omega⟩
  rw [hM0] at sp
  obtain ⟨s1, s2, s3⟩ := sp
  have hx : ∀ x ∈ roots, x < (M0 : Int) := fun x hx => by
    have := s3 (x + 1) (List.mem_map.mpr ⟨x, hx, rfl⟩)
    omega
  obtain ⟨L, hL⟩ : ∃ L : Nat, (P.length : Int) - 1 + M0 + (cellAt ns 5).fmod 4 = L := ⟨((P.length : Int) - 1 + M0 + (cellAt ns 5).fmod 4).toNat, by omega⟩
  have rk := fmod_rg (a := (cellAt ns 5).fdiv 4) (b := (L : Int) + 20) (by omega)
  obtain ⟨many, hmany⟩ : ∃ many : Nat, ((cellAt ns 5).fdiv 4).fmod ((L : Int) + 20) = many := ⟨(((cellAt ns 5).fdiv 4).fmod ((L : Int) + 20)).toNat, by omega⟩
  obtain ⟨K, c, hPar, hLK, hmK⟩ : ∃ K c : Nat, Par P roots dr K c ∧ L ≤ K ∧ many ≤ K := by
    by_cases hf : ((cellAt ns 1).fdiv 4).fmod 3 = 2
    · rw [if_pos hf] at pw s2
      exact ⟨100, 10, ⟨p1, p5, psh, r3, rr60, fun i => (hdr i).2, fun n _ => ⟨hne n, by rw [pw]; decide⟩, pcl, by omega, by omega, by omega, by omega⟩, by omega, by omega⟩
    · rw [if_neg hf] at pw s2
      exact ⟨35, 31, ⟨p1, p5, psh, r3, rr60, fun i => (hdr i).2, fun n hn => ⟨hne n, pw n (by omega)⟩, pcl, by omega, by omega, by omega, by omega⟩, by omega, by omega⟩
  have K100 := hPar.K100
  have hM60 : M0 ≤ 60 := by split at s2 <;> omega
  have hW := lrule_ok p1 p5 r3 rr60 (⟨fun l hl => psh l hl, fun z => by rw [z] at pcl; cases pcl⟩ : Rs 0 P)
  have hVal := values_ok hPar (cells := cells) (by omega) (fun i => (hdr i).1) hLK
  have hCar := par_carried hPar hLK hmK hM60 hx (by omega)
  have hKeep := lkeeps_ok (R := rl P roots) (vs := sq P roots dr many) (by rw [sq_length]; omega) (by rw [rl_length]; omega) (fun n hn => by
    rw [sq_length, rl_length] at hn
    exact ⟨par_kp hPar hmK hn, sq_kept hPar hmK hn⟩)
  have hIsf : ∀ p ∈ sq P roots dr many, M__law_is_fraction [.fz (fD p)] = .ok (.fz (.bl true)) := fun p hp => isf_ok (sq_sz hPar hmK p hp).1 (sq_sz hPar hmK p hp).2.1
  have hcut : (sq P roots dr many).take L = (sq P roots dr L).take many := by
    by_cases h : L ≤ many
    · rw [sq_take P roots dr L many h, List.take_of_length_le (by rw [sq_length]; exact h)]
    · rw [sq_take P roots dr many L (by omega), List.take_of_length_le (by rw [sq_length]; omega)]
  have lfs := sq_length P roots dr L
  have lfd := sq_length P roots dr many
  have lrl := rl_length roots P
  generalize sq P roots dr L = fs at *
  generalize sq P roots dr many = fd at *
  generalize hQ : rl P roots = Q at *
  let E (z8 z9 z10 : S) : Env := [scrS ns, .vl true (.fz (LD P)), .vl true (lO roots), .vl true (.fz (LD Q)), VI (cellAt ns 5), .vl true (.fz (VD fs)), VI many, .vl true (.fz (.lst [LD Q, VD fs])), z8, z9, z10, .un]
  have i0 : ∀ {z8 z9 z10 : S}, eIx (eVar 7) (eC (.int 0)) (E z8 z9 z10) = .ok (.nw (.fz (LD Q))) := fun {z8 z9 z10} => ix_nw (o := .fz (.lst [LD Q, VD fs])) rfl (eC_ev _) rfl
  have i1 : ∀ {z8 z9 z10 : S}, eIx (eVar 7) (eC (.int 1)) (E z8 z9 z10) = .ok (.nw (.fz (VD fs))) := fun {z8 z9 z10} => ix_nw (o := .fz (.lst [LD Q, VD fs])) rfl (eC_ev _) rfl
  have eCar : ∀ {z8 z9 z10 : S}, eCall M_carried_on (aCons (eIx (eVar 7) (eC (.int 0))) (aCons (eIx (eVar 7) (eC (.int 1))) (aCons (eVar 6) aNil))) (E z8 z9 z10) = .ok (.nw (.ls (oV fd))) := fun {z8 z9 z10} => call3 i0 i1 (z := .nw (I many)) rfl hCar
  have hlen : ∀ {z8 z9 z10 : S}, eB gLen (aCons (eVar 5) aNil) (E z8 z9 z10) = .ok (.nw (I L)) := fun {z8 z9 z10} => by rw [len_VD (vs := fs) rfl, lfs]
  obtain ⟨r9, hf, z9, er9⟩ := forL_inv (fg := gN 9) (F := sIf (tNotD (tOf (eCallZ M__law_is_fraction (aCons (eVar 9) aNil)))) (sRet (eC (.bl false))) sNil) (its := (oV fd).map (see true)) (r := E (.vl true (.ls (oV fd))) .un .un)
    (fun _ r => ∃ z, r = E (.vl true (.ls (oV fd))) z .un) ⟨.un, rfl⟩ (fun i x r hx ⟨z, hr⟩ => by
      subst hr
      obtain ⟨p, hp, rfl⟩ : ∃ p ∈ fd, x = .nw (.fz (fD p)) := by
        obtain ⟨o, ho, rfl⟩ := List.mem_map.mp (List.mem_of_getElem? hx)
        obtain ⟨p, hp, rfl⟩ := List.mem_map.mp ho
        exact ⟨p, hp, rfl⟩
      exact ⟨E (.vl true (.ls (oV fd))) (.vl true (.fz (fD p))) .un, E (.vl true (.ls (oV fd))) (.vl true (.fz (fD p))) .un, rfl, if_f (bF (callZ1 (x := .nw (.fz (fD p))) rfl (hIsf p hp) rfl)) rfl, _, rfl⟩)
  subst er9
  unfold B_law
  refine run_ret (seq_go (r' := [scrS ns, .vl true (.fz (LD P)), .un, .un, .un, .un, .un, .un, .un, .un, .un, .un]) (set_go (x := .nw (.ls (oL P))) (call1 (x := .nw (.fz (.scr ns))) rfl hP) (by rw [put_nwF, er_oL]) (by simp [startE]))
    (seq_go (r' := [scrS ns, .vl true (.fz (LD P)), .vl true (lO roots), .un, .un, .un, .un, .un, .un, .un, .un, .un]) (set_go (x := .nw (nO roots)) (call1 (x := .nw (.fz (.scr ns))) rfl hR) (put_nO roots) (by simp))
    (seq_go (r' := [scrS ns, .vl true (.fz (LD P)), .vl true (lO roots), .vl true (.fz (LD Q)), .un, .un, .un, .un, .un, .un, .un, .un]) (set_go (x := .nw (.fz (LD Q))) (call2 (x := .nw (.fz (LD P))) (y := .nw (lO roots)) rfl rfl hW) rfl (by simp))
    (seq_go (r' := [scrS ns, .vl true (.fz (LD P)), .vl true (lO roots), .vl true (.fz (LD Q)), VI (cellAt ns 5), .un, .un, .un, .un, .un, .un, .un]) (set_go (x := .nw (I (cellAt ns 5))) (cell_c (by omega)) rfl (by simp))
    (seq_go (r' := [scrS ns, .vl true (.fz (LD P)), .vl true (lO roots), .vl true (.fz (LD Q)), VI (cellAt ns 5), .vl true (.fz (VD fs)), .un, .un, .un, .un, .un, .un]) (set_go (x := .nw (.ls (oV fs))) ?v5 (by rw [put_nwF, er_oV]) (by simp))
    (seq_go (r' := [scrS ns, .vl true (.fz (LD P)), .vl true (lO roots), .vl true (.fz (LD Q)), VI (cellAt ns 5), .vl true (.fz (VD fs)), VI many, .un, .un, .un, .un, .un]) (set_go (x := .nw (I many)) ?v6 rfl (by simp))
    (seq_go (r' := E .un .un .un) (set_go (x := .nw (.ls [.fz (LD Q), .fz (VD fs)])) ?v7 rfl (by simp [E]))
    (seq_go (r' := E (.vl true (.ls (oV fd))) .un .un) (set_go (x := .nw (.ls (oV fd))) eCar rfl (by simp [E]))
    (seq_go (if_f (or_ff (tNot_ok (b := true) (tOf_ok rfl)) (or_ff (by rw [t_ne (a := many) (b := many) (by rw [len_V (i := 8) rfl (.inl rfl), lfd]) rfl]; simp) ?v8)) rfl)
    (seq_go (r' := E (.vl true (.ls (oV fd))) z9 .un) ?v9
    (seq_go (if_f (or_ff (bF (callZ2 (x := .nw (.fz (LD Q))) (y := .vw (.ls (oV fd))) rfl rfl (by rw [ra_nw, ra_vw, frz, frz, er_fz, er_oV]; exact hKeep) rfl)) ?v10) rfl)
    (seq_go (r' := E (.vl true (.ls (oV fd))) z9 (.vl true (.fz (VD fd)))) (set_go (x := .nw (.ls (oV fd))) ?v11 (by rw [put_nwF, er_oV]) (by simp [E]))
    (seq_go (r' := E (.vl true (.ls [])) z9 (.vl true (.fz (VD fd)))) ?v12
    (seq_go (if_f ?v13 rfl) (ret_go ?v14)))))))))))))))
  case v5 =>
    have hsl := sl_scr (f := eVar 0) (l := pSome (eC (.int 18))) (h := pSome (eC (.int 63))) (lo := some 18) (hi := some 63) (r := [scrS ns, .vl true (.fz (LD P)), .vl true (lO roots), .vl true (.fz (LD Q)), VI (cellAt ns 5), .un, .un, .un, .un, .un, .un, .un]) (ns := ns) rfl (by simp [pSome]) (by simp [pSome]) (by omega)
    rw [hcells] at hsl
    have hn := callZ2 (M := M__law_need) (f := eVar 1) (g := eVar 2) (r := [scrS ns, .vl true (.fz (LD P)), .vl true (lO roots), .vl true (.fz (LD Q)), VI (cellAt ns 5), .un, .un, .un, .un, .un, .un, .un]) (x := .nw (.fz (LD P))) (y := .nw (lO roots)) rfl rfl (need_ok (by omega) (by omega)) rfl
    rw [hM0] at hn
    have hq := e_add hn (e_mod (b := 4) (f := eVar 4) (a := cellAt ns 5) rfl (by omega))
    rw [hL] at hq
    exact call4 (x := .nw (.fz (LD P))) (y := .nw (lO roots)) (z := .nw (nO cells)) rfl rfl hsl hq (by rw [ra_nO]; exact hVal)
  case v6 =>
    rw [op_of (e_div (f := eVar 4) (a := cellAt ns 5) rfl (by omega) (by omega)) (e_add (len_VD (vs := fs) rfl) (eC_ev _)), lfs, ← hmany]
    exact gMod_ev (by omega)
  case v7 =>
    have e1 := lc_copy (fi := iLst (eVar 3)) (i := 11) (ls := Q) (r := [scrS ns, .vl true (.fz (LD P)), .vl true (lO roots), .vl true (.fz (LD Q)), VI (cellAt ns 5), .vl true (.fz (VD fs)), VI many, .un, .un, .un, .un, .un]) (iLst_L (i := 3) (w := true) rfl (.inr rfl) (.inr rfl)) (by simp) (by omega)
    have e2 : eB gList (aCons (eVar 5) aNil) [scrS ns, .vl true (.fz (LD P)), .vl true (lO roots), .vl true (.fz (LD Q)), VI (cellAt ns 5), .vl true (.fz (VD fs)), VI many, .un, .un, .un, .un, .un] = .ok (.nw (.ls (oV fs))) := by
      rw [b1 (x := .nw (.fz (VD fs))) rfl]
      show gList [.fz (VD fs)] = _
      have := items_VD fs
      simp only [gList, this]
      rw [if_pos (allFz_oV fs)]
    rw [eLst, aCons_ev, e1, res_ok, aCons_ev, e2, res_ok, aNil_ev, res_ok, res_ok, ra_nw, ra_nw, er_nOs, er_oV]; rfl
  case v8 =>
    have q1 := sl_V (f := eVar 8) (l := pNone) (h := pSome (eB gLen (aCons (eVar 5) aNil))) (r := E (.vl true (.ls (oV fd))) .un .un) (x := .vw (.ls (oV fd))) (vs := fd) (lo := none) (hi := some (L : Int)) rfl (.inl rfl) rfl (by simp only [pSome, hlen]; rfl) (by omega)
    have q2 := sl_V (f := eVar 5) (l := pNone) (h := pSome (eVar 6)) (r := E (.vl true (.ls (oV fd))) .un .un) (x := .nw (.fz (VD fs))) (vs := fs) (lo := none) (hi := some (many : Int)) rfl (.inr rfl) rfl rfl (by omega)
    rw [cut_hi] at q1 q2
    rw [tOf_ev, op_of q1 q2, gNe_same (d := VD (fd.take L)) (by rw [ra_nw, er_fz, er_oV]) (by rw [ra_nw, er_fz, er_oV, hcut]) (plain_VD 18 _) (fun _ h => by cases h)]
    rfl
  case v9 =>
    unfold sForV
    show (if _ then _ else _) = _
    rw [if_pos ⟨by omega, allFz_oV fd⟩]
    exact hf
  case v10 =>
    have q1 : eLst (aCons (eVar 3) (aCons (eVar 5) aNil)) (E (.vl true (.ls (oV fd))) z9 .un) = .ok (.nw (.ls [.fz (LD Q), .fz (VD fs)])) := rfl
    rw [tOf_ev, op_of (x := .nw (.fz (.lst [LD Q, VD fs]))) rfl q1, gNe_same (d := .lst [LD Q, VD fs]) rfl rfl (plain_lst (List.all_eq_true.mpr fun d hd => by
      have : d = LD Q ∨ d = VD fs := by simpa using hd
      rcases this with rfl | rfl
      · exact plain_LD 17 Q
      · exact plain_VD 17 fs)) (fun _ h => by cases h)]
    rfl
  case v11 =>
    rw [b1 (x := .vw (.ls (oV fd))) rfl, ra_vw]
    show (if allFz (oV fd) = true then Res.ok (R.nw (.ls (oV fd))) else .bad) = _
    rw [if_pos (allFz_oV fd)]
  case v12 =>
    show sClear 8 _ = _
    unfold sClear onOwn
    simp only [E, List.getElem?_cons_succ, List.getElem?_cons_zero, allFz_oV, if_true]
    rfl
  case v13 =>
    rw [tOf_ev, op_of (x := .nw (.ls (oV fd))) (y := .nw (.fz (VD fd))) eCar rfl, gNe_same (d := VD fd) (by rw [ra_nw, er_fz, er_oV]) rfl (plain_VD 18 _) (fun _ h => by cases h)]
    rfl
  case v14 =>
    generalize hr : E (.vl true (.ls [])) z9 (.vl true (.fz (VD fd))) = r
    have c3 : eCall M__law_cell_at (aCons (eVar 0) (aCons (eC (.int 3)) aNil)) r = .ok (.nw (I (cellAt ns 3))) := by rw [← hr]; exact cell_c (by omega)
    have q := call1 (M := M__law_powers) (e_div (b := 240) c3 (by omega) (by omega)) (powers_ok _)
    have q0 : eOp gNe (eOp gMod (eOp gDiv (eCall M__law_cell_at (aCons (eVar 0) (aCons (eC (.int 3)) aNil))) (eC (.int 60))) (eC (.int 4))) (eC (.int 1)) r = .ok (.nw (.fz (.bl (!decide (((cellAt ns 3).fdiv 60).fmod 4 = 1))))) := by
      rw [op_of (e_mod (e_div (b := 60) c3 (by omega) (by omega)) (by omega)) (eC_ev _)]; rfl
    rw [eOr, q0, res_ok]
    show (onB (.fz (.bl _)) _) = _
    cases decide (((cellAt ns 3).fdiv 60).fmod 4 = 1) with
    | true => exact q
    | false => rfl
end
section
open PySem PySem.Spec PyProof.Rows L2 DL
namespace Row
def top (i : Nat) : Stmt := PySem.Challenge.pw_sumcraft_k13_values_carried_on.main.body.getD i (.Pass ⟨0, 0, 0, 0⟩)
abbrev FnP (K : PySem.W.Frag) (x : Str) (st : Stmt) (f : Addr) (fd : FuncData) : Prop := FunD K x x (defArgs st) (defBody st) (defScope st) [] [] f fd
abbrev s_poly_value : Stmt := top 9
abbrev N_poly_value : List Str := ["poly", "n", "found", "number"]
theorem sc_poly_value : FnScope N_poly_value ["poly", "n"] (defScope s_poly_value) := ⟨rfl, rfl, rfl, by decide +kernel, rfl, by decide +kernel, by decide +kernel⟩
abbrev s_shifted : Stmt := top 10
abbrev N_shifted : List Str := ["poly", "by", "found", "size", "low", "at"]
theorem sc_shifted : FnScope N_shifted ["poly", "by"] (defScope s_shifted) := ⟨rfl, rfl, rfl, by decide +kernel, rfl, by decide +kernel, by decide +kernel⟩
abbrev s_divisor : Stmt := top 12
abbrev N_divisor : List Str := ["one", "other", "rest"]
theorem sc_divisor : FnScope N_divisor ["one", "other"] (defScope s_divisor) := ⟨rfl, rfl, rfl, by decide +kernel, rfl, by decide +kernel, by decide +kernel⟩
abbrev s_one_sign : Stmt := top 16
abbrev N_one_sign : List Str := ["poly"]
theorem sc_one_sign : FnScope N_one_sign ["poly"] (defScope s_one_sign) := ⟨rfl, rfl, rfl, by decide +kernel, rfl, by decide +kernel, by decide +kernel⟩
abbrev s_look_at_rule : Stmt := top 19
abbrev N_look_at_rule : List Str := ["rule", "poly"]
theorem sc_look_at_rule : FnScope N_look_at_rule ["rule"] (defScope s_look_at_rule) := ⟨rfl, rfl, rfl, by decide +kernel, rfl, by decide +kernel, by decide +kernel⟩
abbrev s_weighed : Stmt := top 22
abbrev N_weighed : List Str := ["weights", "values", "top", "bottom", "weight", "one"]
theorem sc_weighed : FnScope N_weighed ["weights", "values"] (defScope s_weighed) := ⟨rfl, rfl, rfl, by decide +kernel, rfl, by decide +kernel, by decide +kernel⟩
abbrev s__law_cell_at : Stmt := top 28
abbrev N__law_cell_at : List Str := ["_law_script", "_law_k"]
theorem sc__law_cell_at : FnScope N__law_cell_at ["_law_script", "_law_k"] (defScope s__law_cell_at) := ⟨rfl, rfl, rfl, by decide +kernel, rfl, by decide +kernel, by decide +kernel⟩
abbrev s__law_number : Stmt := top 29
abbrev N__law_number : List Str := ["_law_cell", "_law_most"]
theorem sc__law_number : FnScope N__law_number ["_law_cell", "_law_most"] (defScope s__law_number) := ⟨rfl, rfl, rfl, by decide +kernel, rfl, by decide +kernel, by decide +kernel⟩
abbrev s__law_cut : Stmt := top 30
abbrev N__law_cut : List Str := ["_law_numbers", "_law_found"]
theorem sc__law_cut : FnScope N__law_cut ["_law_numbers"] (defScope s__law_cut) := ⟨rfl, rfl, rfl, by decide +kernel, rfl, by decide +kernel, by decide +kernel⟩
abbrev s__law_value : Stmt := top 32
abbrev N__law_value : List Str := ["_law_poly", "_law_n", "_law_found", "_law_number_here"]
theorem sc__law_value : FnScope N__law_value ["_law_poly", "_law_n"] (defScope s__law_value) := ⟨rfl, rfl, rfl, by decide +kernel, rfl, by decide +kernel, by decide +kernel⟩
abbrev s__law_whole : Stmt := top 33
abbrev N__law_whole : List Str := ["_law_found"]
theorem sc__law_whole : FnScope N__law_whole ["_law_found"] (defScope s__law_whole) := ⟨rfl, rfl, rfl, by decide +kernel, rfl, by decide +kernel, by decide +kernel⟩
abbrev s__law_divisor : Stmt := top 34
abbrev N__law_divisor : List Str := ["_law_one", "_law_other", "_law_rest"]
theorem sc__law_divisor : FnScope N__law_divisor ["_law_one", "_law_other"] (defScope s__law_divisor) := ⟨rfl, rfl, rfl, by decide +kernel, rfl, by decide +kernel, by decide +kernel⟩
abbrev s__law_need : Stmt := top 43
abbrev N__law_need : List Str := ["_law_parts_here", "_law_roots_here", "_law_root"]
theorem sc__law_need : FnScope N__law_need ["_law_parts_here", "_law_roots_here"] (defScope s__law_need) := ⟨rfl, rfl, rfl, by decide +kernel, rfl, by decide +kernel, by decide +kernel⟩
abbrev s_ratio : Stmt := top 13
abbrev N_ratio : List Str := ["top", "bottom", "by"]
theorem sc_ratio : FnScope N_ratio ["top", "bottom"] (defScope s_ratio) := ⟨rfl, rfl, rfl, by decide +kernel, rfl, by decide +kernel, by decide +kernel⟩
abbrev s_reach : Stmt := top 17
abbrev N_reach : List Str := ["poly", "moved", "m"]
theorem sc_reach : FnScope N_reach ["poly"] (defScope s_reach) := ⟨rfl, rfl, rfl, by decide +kernel, rfl, by decide +kernel, by decide +kernel⟩
abbrev s_order_of : Stmt := top 20
abbrev N_order_of : List Str := ["rule"]
theorem sc_order_of : FnScope N_order_of ["rule"] (defScope s_order_of) := ⟨rfl, rfl, rfl, by decide +kernel, rfl, by decide +kernel, by decide +kernel⟩
abbrev s__law_product : Stmt := top 31
abbrev N__law_product : List Str := ["_law_one", "_law_other", "_law_found", "_law_i", "_law_j"]
theorem sc__law_product : FnScope N__law_product ["_law_one", "_law_other"] (defScope s__law_product) := ⟨rfl, rfl, rfl, by decide +kernel, rfl, by decide +kernel, by decide +kernel⟩
abbrev s__law_lowest : Stmt := top 35
abbrev N__law_lowest : List Str := ["_law_top", "_law_bottom", "_law_by"]
theorem sc__law_lowest : FnScope N__law_lowest ["_law_top", "_law_bottom"] (defScope s__law_lowest) := ⟨rfl, rfl, rfl, by decide +kernel, rfl, by decide +kernel, by decide +kernel⟩
abbrev s__law_weighed : Stmt := top 37
abbrev N__law_weighed : List Str := ["_law_rule_here", "_law_values_here", "_law_n", "_law_top", "_law_bottom", "_law_i"]
theorem sc__law_weighed : FnScope N__law_weighed ["_law_rule_here", "_law_values_here", "_law_n"] (defScope s__law_weighed) := ⟨rfl, rfl, rfl, by decide +kernel, rfl, by decide +kernel, by decide +kernel⟩
abbrev s__law_is_fraction : Stmt := top 38
abbrev N__law_is_fraction : List Str := ["_law_found"]
theorem sc__law_is_fraction : FnScope N__law_is_fraction ["_law_found"] (defScope s__law_is_fraction) := ⟨rfl, rfl, rfl, by decide +kernel, rfl, by decide +kernel, by decide +kernel⟩
abbrev s__law_last : Stmt := top 39
abbrev N__law_last : List Str := ["_law_cell", "_law_found", "_law_number_here"]
theorem sc__law_last : FnScope N__law_last ["_law_cell"] (defScope s__law_last) := ⟨rfl, rfl, rfl, by decide +kernel, rfl, by decide +kernel, by decide +kernel⟩
abbrev s__law_roots : Stmt := top 41
abbrev N__law_roots : List Str := ["_law_script", "_law_cell", "_law_most", "_law_cells", "_law_found", "_law_one"]
theorem sc__law_roots : FnScope N__law_roots ["_law_script"] (defScope s__law_roots) := ⟨rfl, rfl, rfl, by decide +kernel, rfl, by decide +kernel, by decide +kernel⟩
abbrev s_need_of : Stmt := top 21
abbrev N_need_of : List Str := ["rule"]
theorem sc_need_of : FnScope N_need_of ["rule"] (defScope s_need_of) := ⟨rfl, rfl, rfl, by decide +kernel, rfl, by decide +kernel, by decide +kernel⟩
abbrev s_keeps : Stmt := top 23
abbrev N_keeps : List Str := ["rule", "values", "n", "size", "top", "bottom", "poly"]
theorem sc_keeps : FnScope N_keeps ["rule", "values", "n"] (defScope s_keeps) := ⟨rfl, rfl, rfl, by decide +kernel, rfl, by decide +kernel, by decide +kernel⟩
abbrev s_next_one : Stmt := top 25
abbrev N_next_one : List Str := ["rule", "values", "n", "weights", "top", "bottom", "poly"]
theorem sc_next_one : FnScope N_next_one ["rule", "values"] (defScope s_next_one) := ⟨rfl, rfl, rfl, by decide +kernel, rfl, by decide +kernel, by decide +kernel⟩
abbrev s__law_fraction : Stmt := top 36
abbrev N__law_fraction : List Str := ["_law_cell", "_law_number_here", "_law_bottom"]
theorem sc__law_fraction : FnScope N__law_fraction ["_law_cell"] (defScope s__law_fraction) := ⟨rfl, rfl, rfl, by decide +kernel, rfl, by decide +kernel, by decide +kernel⟩
abbrev s__law_parts : Stmt := top 40
abbrev N__law_parts : List Str := ["_law_script", "_law_far", "_law_found", "_law_i", "_law_number_here", "_law_many", "_law_part", "_law_j"]
theorem sc__law_parts : FnScope N__law_parts ["_law_script"] (defScope s__law_parts) := ⟨rfl, rfl, rfl, by decide +kernel, rfl, by decide +kernel, by decide +kernel⟩
abbrev s__law_rule : Stmt := top 42
abbrev N__law_rule : List Str := ["_law_parts_here", "_law_roots_here", "_law_rule_here", "_law_root", "_law_part"]
theorem sc__law_rule : FnScope N__law_rule ["_law_parts_here", "_law_roots_here"] (defScope s__law_rule) := ⟨rfl, rfl, rfl, by decide +kernel, rfl, by decide +kernel, by decide +kernel⟩
abbrev s__law_keeps : Stmt := top 45
abbrev N__law_keeps : List Str := ["_law_rule_here", "_law_values_here", "_law_n"]
theorem sc__law_keeps : FnScope N__law_keeps ["_law_rule_here", "_law_values_here"] (defScope s__law_keeps) := ⟨rfl, rfl, rfl, by decide +kernel, rfl, by decide +kernel, by decide +kernel⟩
abbrev s_look_at_first : Stmt := top 24
abbrev N_look_at_first : List Str := ["rule", "first", "n"]
theorem sc_look_at_first : FnScope N_look_at_first ["rule", "first"] (defScope s_look_at_first) := ⟨rfl, rfl, rfl, by decide +kernel, rfl, by decide +kernel, by decide +kernel⟩
abbrev s__law_values : Stmt := top 44
abbrev N__law_values : List Str := ["_law_parts_here", "_law_roots_here", "_law_cells", "_law_many", "_law_values_here", "_law_at", "_law_n", "_law_top", "_law_bottom"]
theorem sc__law_values : FnScope N__law_values ["_law_parts_here", "_law_roots_here", "_law_cells", "_law_many"] (defScope s__law_values) := ⟨rfl, rfl, rfl, by decide +kernel, rfl, by decide +kernel, by decide +kernel⟩
abbrev s_carried_on : Stmt := top 26
abbrev N_carried_on : List Str := ["rule", "first", "many", "values"]
theorem sc_carried_on : FnScope N_carried_on ["rule", "first", "many"] (defScope s_carried_on) := ⟨rfl, rfl, rfl, by decide +kernel, rfl, by decide +kernel, by decide +kernel⟩
abbrev s__law_powers : Stmt := top 46
abbrev N__law_powers : List Str := ["_law_cell", "_law_x", "_law_one", "_law_due", "_law_n"]
theorem sc__law_powers : FnScope N__law_powers ["_law_cell"] (defScope s__law_powers) := ⟨rfl, rfl, rfl, by decide +kernel, rfl, by decide +kernel, by decide +kernel⟩
abbrev s_law : Stmt := top 47
abbrev N_law : List Str := ["_law_script", "_law_parts_here", "_law_roots_here", "_law_rule_here", "_law_cell", "_law_first", "_law_many", "_law_handed", "_law_found", "_law_one", "_law_beside", "_law_poly"]
theorem sc_law : FnScope N_law ["_law_script"] (defScope s_law) := ⟨rfl, rfl, rfl, by decide +kernel, rfl, by decide +kernel, by decide +kernel⟩
variable {P : Program} {w : World} {K : PySem.W.Frag} {mg : Str → Option Value} {base : Heap} {f : Addr} {fd : FuncData}
theorem ok_poly_value (F : FnP K "poly_value" s_poly_value f fd) (hm : mg "poly_value" = some (.ref f)) (h_reversed : mg "reversed" = none) : Def P w K mg base "poly_value" 1 2 M_poly_value :=
  (Def.ofD (N := N_poly_value) F sc_poly_value hm (FunD.bindsN (ps := ["poly", "n"]) F fun _ _ _ _ _ _ us hl => match us, hl with | [_, _], _ => rfl) rfl B_poly_value (fun cdv A outer s H E Hf B => (dss_cons (ds_set (i := 2) false sc_poly_value.nd rfl (by first | exact Or.inl rfl | exact Or.inr rfl) de_int) (dss_cons (ds_for B (di_rev rfl h_reversed (de_var (pv 0))) (dg_name (i := 3) (vs := [3]) sc_poly_value.nd rfl (by first | exact Or.inl rfl | exact Or.inr rfl)) (dss_one (ds_set (i := 2) false sc_poly_value.nd rfl (by first | exact Or.inl rfl | exact Or.inr rfl) (de_addA (de_mulA (de_var (pv 2)) (de_var (pv 1))) (de_var (pv 3)))))) (dss_one (ds_ret (de_var (pv 2)))))))).imp imp_poly_value
theorem ok_shifted (F : FnP K "shifted" s_shifted f fd) (hm : mg "shifted" = some (.ref f)) (h_len : mg "len" = none) (h_list : mg "list" = none) (h_range : mg "range" = none) : Def P w K mg base "shifted" 1 2 M_shifted :=
  (Def.ofD (N := N_shifted) F sc_shifted hm (FunD.bindsN (ps := ["poly", "by"]) F fun _ _ _ _ _ _ us hl => match us, hl with | [_, _], _ => rfl) rfl B_shifted (fun cdv A outer s H E Hf B => (dss_cons (ds_set (i := 2) true sc_shifted.nd rfl (by first | exact Or.inl rfl | exact Or.inr rfl) (de_Ty call_list_of pc_list rfl h_list (by decide +kernel) (da_cons (de_var (pv 0)) da_nil))) (dss_cons (ds_set (i := 3) false sc_shifted.nd rfl (by first | exact Or.inl rfl | exact Or.inr rfl) (de_len rfl h_len (da_cons (de_var (pv 2)) da_nil))) (dss_cons (ds_for B (di_rng1 rfl h_range (da_cons (de_sub (de_var (pv 3)) de_int) da_nil)) (dg_name (i := 4) (vs := [4]) sc_shifted.nd rfl (by first | exact Or.inl rfl | exact Or.inr rfl)) (dss_one (ds_for B (di_rng3 rfl h_range (da_cons (de_sub (de_var (pv 3)) de_int) (da_cons (de_sub (de_var (pv 4)) de_int) (da_cons (de_neg de_int) da_nil)))) (dg_name (i := 5) (vs := [5]) sc_shifted.nd rfl (by first | exact Or.inl rfl | exact Or.inr rfl)) (dss_one (ds_put (i := 2) (pv 2) (de_addA (de_ix (de_var (pv 2)) (de_var (pv 5))) (de_mulA (de_var (pv 1)) (de_ix (de_var (pv 2)) (de_addA (de_var (pv 5)) de_int)))) (de_var (pv 5))))))) (dss_one (ds_retV (pv 2)))))))).imp imp_shifted
theorem ok_divisor (F : FnP K "divisor" s_divisor f fd) (hm : mg "divisor" = some (.ref f)) (h_abs : mg "abs" = none) : Def P w K mg base "divisor" 1 2 M_divisor :=
  (Def.ofD (N := N_divisor) F sc_divisor hm (FunD.bindsN (ps := ["one", "other"]) F fun _ _ _ _ _ _ us hl => match us, hl with | [_, _], _ => rfl) rfl B_divisor (fun cdv A outer s H E Hf B => (dss_cons (ds_set (i := 0) false sc_divisor.nd rfl (by first | exact Or.inl rfl | exact Or.inr rfl) (de_B call_abs pc_abs rfl h_abs (by decide +kernel) (da_cons (de_var (pv 0)) da_nil))) (dss_cons (ds_set (i := 1) false sc_divisor.nd rfl (by first | exact Or.inl rfl | exact Or.inr rfl) (de_B call_abs pc_abs rfl h_abs (by decide +kernel) (da_cons (de_var (pv 1)) da_nil))) (dss_cons (ds_wh (fun r => slotN 1 r + 1) B (dt_gt (de_var (pv 1)) de_int) (dss_cons (ds_set (i := 2) false sc_divisor.nd rfl (by first | exact Or.inl rfl | exact Or.inr rfl) (de_mod (de_var (pv 0)) (de_var (pv 1)))) (dss_cons (ds_set (i := 0) false sc_divisor.nd rfl (by first | exact Or.inl rfl | exact Or.inr rfl) (de_var (pv 1))) (dss_one (ds_set (i := 1) false sc_divisor.nd rfl (by first | exact Or.inl rfl | exact Or.inr rfl) (de_var (pv 2))))))) (dss_one (ds_ret (de_var (pv 0))))))))).imp imp_divisor
theorem ok_one_sign (F : FnP K "one_sign" s_one_sign f fd) (hm : mg "one_sign" = some (.ref f)) (h_max : mg "max" = none) (h_min : mg "min" = none) : Def P w K mg base "one_sign" 1 1 M_one_sign :=
  (Def.ofD (N := N_one_sign) F sc_one_sign hm (FunD.bindsN (ps := ["poly"]) F fun _ _ _ _ _ _ us hl => match us, hl with | [_], _ => rfl) rfl B_one_sign (fun cdv A outer s H E Hf B => (dss_cons (ds_if (dt_w (dw_or (dt_eq B (de_var (pv 0)) (de_lst da_nil)) (dw_or1 (dt_eq B (de_ix (de_var (pv 0)) de_int) de_int)))) (dss_one (ds_ret de_bl)) dss_nil) (dss_one (ds_ret (de_or (de_ge (de_B (cr_min rfl) pc_minL rfl h_min (by decide +kernel) (da_cons (de_var (pv 0)) da_nil)) de_int) (de_one (de_le (de_B (cr_max rfl) pc_maxL rfl h_max (by decide +kernel) (da_cons (de_var (pv 0)) da_nil)) de_int)))))))).imp imp_one_sign
theorem ok_look_at_rule (F : FnP K "look_at_rule" s_look_at_rule f fd) (hm : mg "look_at_rule" = some (.ref f)) (rx_NoRule : DL.Rx K mg "NoRule") : Def P w K mg base "look_at_rule" 1 1 M_look_at_rule :=
  (Def.ofD (N := N_look_at_rule) F sc_look_at_rule hm (FunD.bindsN (ps := ["rule"]) F fun _ _ _ _ _ _ us hl => match us, hl with | [_], _ => rfl) rfl B_look_at_rule (fun cdv A outer s H E Hf B => (dss_cons (ds_if (dt_w (dw_or (dt_eq B (de_var (pv 0)) (de_lst da_nil)) (dw_or1 (dt_eq B (de_ix (de_var (pv 0)) (de_neg de_int)) (de_lst da_nil))))) (dss_one (ds_raise rx_NoRule B rfl)) dss_nil) (dss_one (ds_for B (di_list (de_var (pv 0))) (dg_name (i := 1) (vs := [1]) sc_look_at_rule.nd rfl (by first | exact Or.inl rfl | exact Or.inr rfl)) (dss_one (ds_if (dt_w (dw_and (dt_ne B (de_var (pv 1)) (de_lst da_nil)) (dw_and1 (dt_eq B (de_ix (de_var (pv 1)) (de_neg de_int)) de_int)))) (dss_one (ds_raise rx_NoRule B rfl)) dss_nil))))))).imp imp_look_at_rule
theorem ok_weighed (F : FnP K "weighed" s_weighed f fd) (hm : mg "weighed" = some (.ref f)) (h_zip : mg "zip" = none) : Def P w K mg base "weighed" 1 2 M_weighed :=
  (Def.ofD (N := N_weighed) F sc_weighed hm (FunD.bindsN (ps := ["weights", "values"]) F fun _ _ _ _ _ _ us hl => match us, hl with | [_, _], _ => rfl) rfl B_weighed (fun cdv A outer s H E Hf B => (dss_cons (ds_set (i := 2) false sc_weighed.nd rfl (by first | exact Or.inl rfl | exact Or.inr rfl) de_int) (dss_cons (ds_set (i := 3) false sc_weighed.nd rfl (by first | exact Or.inl rfl | exact Or.inr rfl) de_int) (dss_cons (ds_for B (di_zip rfl h_zip (de_var (pv 0)) (de_var (pv 1))) (dg_tup rfl (dgs_cons (dg_name (i := 4) (vs := [4, 5]) sc_weighed.nd rfl (by first | exact Or.inl rfl | exact Or.inr rfl)) (dgs_cons (dg_name (i := 5) (vs := [4, 5]) sc_weighed.nd rfl (by first | exact Or.inl rfl | exact Or.inr rfl)) dgs_nil))) (dss_cons (ds_set (i := 2) false sc_weighed.nd rfl (by first | exact Or.inl rfl | exact Or.inr rfl) (de_addA (de_mulA (de_var (pv 2)) (de_ix (de_var (pv 5)) de_int)) (de_mulA (de_mulA (de_var (pv 4)) (de_ix (de_var (pv 5)) de_int)) (de_var (pv 3))))) (dss_one (ds_set (i := 3) false sc_weighed.nd rfl (by first | exact Or.inl rfl | exact Or.inr rfl) (de_mulA (de_var (pv 3)) (de_ix (de_var (pv 5)) de_int)))))) (dss_one (ds_ret (de_tup (da_cons (de_var (pv 2)) (da_cons (de_var (pv 3)) da_nil)))))))))).imp imp_weighed
theorem ok__law_cell_at (F : FnP K "_law_cell_at" s__law_cell_at f fd) (hm : mg "_law_cell_at" = some (.ref f)) (h_len : mg "len" = none) : Def P w K mg base "_law_cell_at" 1 2 M__law_cell_at :=
  (Def.ofD (N := N__law_cell_at) F sc__law_cell_at hm (FunD.bindsN (ps := ["_law_script", "_law_k"]) F fun _ _ _ _ _ _ us hl => match us, hl with | [_, _], _ => rfl) rfl B__law_cell_at (fun cdv A outer s H E Hf B => (dss_cons (ds_if (dt_lt (de_var (pv 1)) (de_len rfl h_len (da_cons (de_var (pv 0)) da_nil))) (dss_one (ds_ret (de_ix (de_var (pv 0)) (de_var (pv 1))))) dss_nil) (dss_one (ds_ret de_int))))).imp imp__law_cell_at
theorem ok__law_number (F : FnP K "_law_number" s__law_number f fd) (hm : mg "_law_number" = some (.ref f))  : Def P w K mg base "_law_number" 1 2 M__law_number :=
  (Def.ofD (N := N__law_number) F sc__law_number hm (FunD.bindsN (ps := ["_law_cell", "_law_most"]) F fun _ _ _ _ _ _ us hl => match us, hl with | [_, _], _ => rfl) rfl B__law_number (fun cdv A outer s H E Hf B => (dss_cons (ds_if (dt_eq B (de_mod (de_var (pv 0)) de_int) de_int) (dss_one (ds_ret (de_addA (de_sub (de_mod (de_fdiv (de_var (pv 0)) de_int) (de_sub (de_mulA de_int (de_var (pv 1))) de_int)) (de_var (pv 1))) de_int))) dss_nil) (dss_cons (ds_if (dt_eq B (de_mod (de_var (pv 0)) de_int) de_int) (dss_one (ds_ret (de_sub (de_mod (de_fdiv (de_var (pv 0)) de_int) de_int) de_int))) dss_nil) (dss_one (ds_ret (de_sub (de_mod (de_fdiv (de_var (pv 0)) de_int) de_int) de_int))))))).imp imp__law_number
theorem ok__law_cut (F : FnP K "_law_cut" s__law_cut f fd) (hm : mg "_law_cut" = some (.ref f)) (h_len : mg "len" = none) (h_list : mg "list" = none) : Def P w K mg base "_law_cut" 1 1 M__law_cut :=
  (Def.ofD (N := N__law_cut) F sc__law_cut hm (FunD.bindsN (ps := ["_law_numbers"]) F fun _ _ _ _ _ _ us hl => match us, hl with | [_], _ => rfl) rfl B__law_cut (fun cdv A outer s H E Hf B => (dss_cons (ds_set (i := 1) true sc__law_cut.nd rfl (by first | exact Or.inl rfl | exact Or.inr rfl) (de_Ty call_list_of pc_list rfl h_list (by decide +kernel) (da_cons (de_var (pv 0)) da_nil))) (dss_cons (ds_wh (fun r => lenS 1 r + 1) B (dt_w (dw_and (dt_gt (de_len rfl h_len (da_cons (de_var (pv 1)) da_nil)) de_int) (dw_and1 (dt_eq B (de_ix (de_var (pv 1)) (de_neg de_int)) de_int)))) (dss_one (ds_pop (i := 1) (pv 1)))) (dss_one (ds_retV (pv 1))))))).imp imp__law_cut
theorem ok__law_value (F : FnP K "_law_value" s__law_value f fd) (hm : mg "_law_value" = some (.ref f)) (h_reversed : mg "reversed" = none) : Def P w K mg base "_law_value" 1 2 M__law_value :=
  (Def.ofD (N := N__law_value) F sc__law_value hm (FunD.bindsN (ps := ["_law_poly", "_law_n"]) F fun _ _ _ _ _ _ us hl => match us, hl with | [_, _], _ => rfl) rfl B__law_value (fun cdv A outer s H E Hf B => (dss_cons (ds_set (i := 2) false sc__law_value.nd rfl (by first | exact Or.inl rfl | exact Or.inr rfl) de_int) (dss_cons (ds_for B (di_rev rfl h_reversed (de_var (pv 0))) (dg_name (i := 3) (vs := [3]) sc__law_value.nd rfl (by first | exact Or.inl rfl | exact Or.inr rfl)) (dss_one (ds_set (i := 2) false sc__law_value.nd rfl (by first | exact Or.inl rfl | exact Or.inr rfl) (de_addA (de_mulA (de_var (pv 2)) (de_var (pv 1))) (de_var (pv 3)))))) (dss_one (ds_ret (de_var (pv 2)))))))).imp imp__law_value
theorem ok__law_whole (F : FnP K "_law_whole" s__law_whole f fd) (hm : mg "_law_whole" = some (.ref f)) (h_bool : mg "bool" = none) (h_int : mg "int" = none) (h_isinstance : mg "isinstance" = none) : Def P w K mg base "_law_whole" 1 1 M__law_whole :=
  (Def.ofD (N := N__law_whole) F sc__law_whole hm (FunD.bindsN (ps := ["_law_found"]) F fun _ _ _ _ _ _ us hl => match us, hl with | [_], _ => rfl) rfl B__law_whole (fun cdv A outer s H E Hf B => (dss_one (ds_ret (de_and (de_isi .int rfl h_isinstance (pe_bltn rfl h_int (by decide +kernel) rfl) (de_var (pv 0))) (de_one (de_not (de_isi .bl rfl h_isinstance (pe_bltn rfl h_bool (by decide +kernel) rfl) (de_var (pv 0)))))))))).imp imp__law_whole
theorem ok__law_divisor (F : FnP K "_law_divisor" s__law_divisor f fd) (hm : mg "_law_divisor" = some (.ref f)) (h_abs : mg "abs" = none) : Def P w K mg base "_law_divisor" 1 2 M__law_divisor :=
  (Def.ofD (N := N__law_divisor) F sc__law_divisor hm (FunD.bindsN (ps := ["_law_one", "_law_other"]) F fun _ _ _ _ _ _ us hl => match us, hl with | [_, _], _ => rfl) rfl B__law_divisor (fun cdv A outer s H E Hf B => (dss_cons (ds_set (i := 0) false sc__law_divisor.nd rfl (by first | exact Or.inl rfl | exact Or.inr rfl) (de_B call_abs pc_abs rfl h_abs (by decide +kernel) (da_cons (de_var (pv 0)) da_nil))) (dss_cons (ds_set (i := 1) false sc__law_divisor.nd rfl (by first | exact Or.inl rfl | exact Or.inr rfl) (de_B call_abs pc_abs rfl h_abs (by decide +kernel) (da_cons (de_var (pv 1)) da_nil))) (dss_cons (ds_wh (fun r => slotN 0 r + 1) B (dt_ne B (de_var (pv 0)) de_int) (dss_cons (ds_set (i := 2) false sc__law_divisor.nd rfl (by first | exact Or.inl rfl | exact Or.inr rfl) (de_mod (de_var (pv 1)) (de_var (pv 0)))) (dss_cons (ds_set (i := 1) false sc__law_divisor.nd rfl (by first | exact Or.inl rfl | exact Or.inr rfl) (de_var (pv 0))) (dss_one (ds_set (i := 0) false sc__law_divisor.nd rfl (by first | exact Or.inl rfl | exact Or.inr rfl) (de_var (pv 2))))))) (dss_one (ds_ret (de_var (pv 1))))))))).imp imp__law_divisor
theorem ok__law_need (F : FnP K "_law_need" s__law_need f fd) (hm : mg "_law_need" = some (.ref f)) (h_len : mg "len" = none) (h_max : mg "max" = none) : Def P w K mg base "_law_need" 1 2 M__law_need :=
  (Def.ofD (N := N__law_need) F sc__law_need hm (FunD.bindsN (ps := ["_law_parts_here", "_law_roots_here"]) F fun _ _ _ _ _ _ us hl => match us, hl with | [_, _], _ => rfl) rfl B__law_need (fun cdv A outer s H E Hf B => (dss_one (ds_ret (de_addA (de_sub (de_len rfl h_len (da_cons (de_var (pv 0)) da_nil)) de_int) (de_maxD B rfl h_max (by decide +kernel) (de_lc (own := [("_law_root", 2)]) B sc__law_need.nd (di_list (de_var (pv 1))) (blkOk_by (own := [("_law_root", 2)]) (N := N__law_need) (sc := defScope s__law_need) (by decide +kernel)) (fun _ _ _ _ _ => (dg_name (i := 2) (vs := [2]) sc__law_need.nd rfl (by first | exact Or.inl rfl | exact Or.inr rfl))) (fun _ _ _ _ _ => (de_addA (de_var (pv 2)) de_int))) pe_int)))))).imp (fun os h => .inr rfl)
theorem ok_ratio (F : FnP K "ratio" s_ratio f fd) (hm : mg "ratio" = some (.ref f)) (rx_NoNumber : DL.Rx K mg "NoNumber") (D_divisor : Def P w K mg base "divisor" 1 2 M_divisor) : Def P w K mg base "ratio" 2 2 M_ratio :=
  (Def.ofD (N := N_ratio) F sc_ratio hm (FunD.bindsN (ps := ["top", "bottom"]) F fun _ _ _ _ _ _ us hl => match us, hl with | [_, _], _ => rfl) rfl B_ratio (fun cdv A outer s H E Hf B => (dss_cons (ds_if (dt_eq B (de_var (pv 1)) de_int) (dss_one (ds_raise rx_NoNumber B rfl)) dss_nil) (dss_cons (ds_set (i := 2) false sc_ratio.nd rfl (by first | exact Or.inl rfl | exact Or.inr rfl) (de_call D_divisor B (by decide) rfl (da_cons (de_var (pv 0)) (da_cons (de_var (pv 1)) da_nil)) rfl (hlen := (ar_cons (ar_cons ar_nil))))) (dss_cons (ds_if (dt_lt (de_var (pv 1)) de_int) (dss_one (ds_set (i := 2) false sc_ratio.nd rfl (by first | exact Or.inl rfl | exact Or.inr rfl) (de_neg (de_var (pv 2))))) dss_nil) (dss_one (ds_ret (de_tup (da_cons (de_fdiv (de_var (pv 0)) (de_var (pv 2))) (da_cons (de_fdiv (de_var (pv 1)) (de_var (pv 2))) da_nil)))))))))).imp imp_ratio
theorem ok_reach (F : FnP K "reach" s_reach f fd) (hm : mg "reach" = some (.ref f)) (h_list : mg "list" = none) (h_range : mg "range" = none) (rx_NoNumber : DL.Rx K mg "NoNumber") (rx_TooGreat : DL.Rx K mg "TooGreat") (c_LIMIT : ∃ t, mg "LIMIT" = some (.int 60 t)) (D_one_sign : Def P w K mg base "one_sign" 1 1 M_one_sign) (D_shifted : Def P w K mg base "shifted" 1 2 M_shifted) : Def P w K mg base "reach" 2 1 M_reach :=
  (Def.ofD (N := N_reach) F sc_reach hm (FunD.bindsN (ps := ["poly"]) F fun _ _ _ _ _ _ us hl => match us, hl with | [_], _ => rfl) rfl B_reach (fun cdv A outer s H E Hf B => (dss_cons (ds_if (dt_eq B (de_var (pv 0)) (de_lst da_nil)) (dss_one (ds_raise rx_NoNumber B rfl)) dss_nil) (dss_cons (ds_set (i := 1) false sc_reach.nd rfl (by first | exact Or.inl rfl | exact Or.inr rfl) (de_Ty call_list_of pc_list rfl h_list (by decide +kernel) (da_cons (de_var (pv 0)) da_nil))) (dss_cons (ds_for B (di_rng1 rfl h_range (da_cons (de_addA (de_c (pe_glob (v := .int 60) rfl c_LIMIT.choose_spec ⟨_, rfl⟩) (fun _ => rfl)) de_int) da_nil)) (dg_name (i := 2) (vs := [2]) sc_reach.nd rfl (by first | exact Or.inl rfl | exact Or.inr rfl)) (dss_cons (ds_if (dt_val (de_call D_one_sign B (by decide) rfl (da_cons (de_var (pv 1)) da_nil) rfl (hlen := (ar_cons ar_nil)))) (dss_one (ds_ret (de_var (pv 2)))) dss_nil) (dss_one (ds_set (i := 1) false sc_reach.nd rfl (by first | exact Or.inl rfl | exact Or.inr rfl) (de_call D_shifted B (by decide) rfl (da_cons (de_var (pv 1)) (da_cons de_int da_nil)) rfl (hlen := (ar_cons (ar_cons ar_nil)))))))) (dss_one (ds_raise rx_TooGreat B rfl))))))).imp imp_reach
theorem ok_order_of (F : FnP K "order_of" s_order_of f fd) (hm : mg "order_of" = some (.ref f)) (h_len : mg "len" = none) (D_look_at_rule : Def P w K mg base "look_at_rule" 1 1 M_look_at_rule) : Def P w K mg base "order_of" 2 1 M_order_of :=
  (Def.ofD (N := N_order_of) F sc_order_of hm (FunD.bindsN (ps := ["rule"]) F fun _ _ _ _ _ _ us hl => match us, hl with | [_], _ => rfl) rfl B_order_of (fun cdv A outer s H E Hf B => (dss_cons (ds_expr (de_callZ D_look_at_rule B (by decide) rfl (da_cons (de_var (pv 0)) da_nil) rfl (hlen := (ar_cons ar_nil)))) (dss_one (ds_ret (de_sub (de_len rfl h_len (da_cons (de_var (pv 0)) da_nil)) de_int)))))).imp imp_order_of
theorem ok__law_product (F : FnP K "_law_product" s__law_product f fd) (hm : mg "_law_product" = some (.ref f)) (h_len : mg "len" = none) (h_range : mg "range" = none) (D__law_cut : Def P w K mg base "_law_cut" 1 1 M__law_cut) : Def P w K mg base "_law_product" 2 2 M__law_product :=
  (Def.ofD (N := N__law_product) F sc__law_product hm (FunD.bindsN (ps := ["_law_one", "_law_other"]) F fun _ _ _ _ _ _ us hl => match us, hl with | [_, _], _ => rfl) rfl B__law_product (fun cdv A outer s H E Hf B => (dss_cons (ds_set (i := 2) true sc__law_product.nd rfl (by first | exact Or.inl rfl | exact Or.inr rfl) (de_mulA (de_lst (da_cons de_int da_nil)) (de_addA (de_len rfl h_len (da_cons (de_var (pv 0)) da_nil)) (de_len rfl h_len (da_cons (de_var (pv 1)) da_nil))))) (dss_cons (ds_for B (di_rng1 rfl h_range (da_cons (de_len rfl h_len (da_cons (de_var (pv 0)) da_nil)) da_nil)) (dg_name (i := 3) (vs := [3]) sc__law_product.nd rfl (by first | exact Or.inl rfl | exact Or.inr rfl)) (dss_one (ds_for B (di_rng1 rfl h_range (da_cons (de_len rfl h_len (da_cons (de_var (pv 1)) da_nil)) da_nil)) (dg_name (i := 4) (vs := [4]) sc__law_product.nd rfl (by first | exact Or.inl rfl | exact Or.inr rfl)) (dss_one (ds_put (i := 2) (pv 2) (de_addA (de_ix (de_var (pv 2)) (de_addA (de_var (pv 3)) (de_var (pv 4)))) (de_mulA (de_ix (de_var (pv 0)) (de_var (pv 3))) (de_ix (de_var (pv 1)) (de_var (pv 4))))) (de_addA (de_var (pv 3)) (de_var (pv 4)))))))) (dss_one (ds_ret (de_call D__law_cut B (by decide) rfl (da_cons (de_var (pv 2)) da_nil) rfl (hlen := (ar_cons ar_nil))))))))).imp imp__law_product
theorem ok__law_lowest (F : FnP K "_law_lowest" s__law_lowest f fd) (hm : mg "_law_lowest" = some (.ref f)) (D__law_divisor : Def P w K mg base "_law_divisor" 1 2 M__law_divisor) : Def P w K mg base "_law_lowest" 2 2 M__law_lowest :=
  (Def.ofD (N := N__law_lowest) F sc__law_lowest hm (FunD.bindsN (ps := ["_law_top", "_law_bottom"]) F fun _ _ _ _ _ _ us hl => match us, hl with | [_, _], _ => rfl) rfl B__law_lowest (fun cdv A outer s H E Hf B => (dss_cons (ds_set (i := 2) false sc__law_lowest.nd rfl (by first | exact Or.inl rfl | exact Or.inr rfl) (de_call D__law_divisor B (by decide) rfl (da_cons (de_var (pv 0)) (da_cons (de_var (pv 1)) da_nil)) rfl (hlen := (ar_cons (ar_cons ar_nil))))) (dss_cons (ds_if (dt_lt (de_var (pv 1)) de_int) (dss_one (ds_set (i := 2) false sc__law_lowest.nd rfl (by first | exact Or.inl rfl | exact Or.inr rfl) (de_neg (de_var (pv 2))))) dss_nil) (dss_one (ds_ret (de_tup (da_cons (de_fdiv (de_var (pv 0)) (de_var (pv 2))) (da_cons (de_fdiv (de_var (pv 1)) (de_var (pv 2))) da_nil))))))))).imp imp__law_lowest
theorem ok__law_weighed (F : FnP K "_law_weighed" s__law_weighed f fd) (hm : mg "_law_weighed" = some (.ref f)) (h_len : mg "len" = none) (h_range : mg "range" = none) (D__law_value : Def P w K mg base "_law_value" 1 2 M__law_value) : Def P w K mg base "_law_weighed" 2 3 M__law_weighed :=
  (Def.ofD (N := N__law_weighed) F sc__law_weighed hm (FunD.bindsN (ps := ["_law_rule_here", "_law_values_here", "_law_n"]) F fun _ _ _ _ _ _ us hl => match us, hl with | [_, _, _], _ => rfl) rfl B__law_weighed (fun cdv A outer s H E Hf B => (dss_cons (ds_set (i := 3) false sc__law_weighed.nd rfl (by first | exact Or.inl rfl | exact Or.inr rfl) de_int) (dss_cons (ds_set (i := 4) false sc__law_weighed.nd rfl (by first | exact Or.inl rfl | exact Or.inr rfl) de_int) (dss_cons (ds_for B (di_rng1 rfl h_range (da_cons (de_len rfl h_len (da_cons (de_var (pv 0)) da_nil)) da_nil)) (dg_name (i := 5) (vs := [5]) sc__law_weighed.nd rfl (by first | exact Or.inl rfl | exact Or.inr rfl)) (dss_cons (ds_set (i := 3) false sc__law_weighed.nd rfl (by first | exact Or.inl rfl | exact Or.inr rfl) (de_addA (de_mulA (de_var (pv 3)) (de_ix (de_ix (de_var (pv 1)) (de_addA (de_var (pv 2)) (de_var (pv 5)))) de_int)) (de_mulA (de_mulA (de_call D__law_value B (by decide) rfl (da_cons (de_ix (de_var (pv 0)) (de_var (pv 5))) (da_cons (de_var (pv 2)) da_nil)) rfl (hlen := (ar_cons (ar_cons ar_nil)))) (de_ix (de_ix (de_var (pv 1)) (de_addA (de_var (pv 2)) (de_var (pv 5)))) de_int)) (de_var (pv 4))))) (dss_one (ds_set (i := 4) false sc__law_weighed.nd rfl (by first | exact Or.inl rfl | exact Or.inr rfl) (de_mulA (de_var (pv 4)) (de_ix (de_ix (de_var (pv 1)) (de_addA (de_var (pv 2)) (de_var (pv 5)))) de_int)))))) (dss_one (ds_ret (de_tup (da_cons (de_var (pv 3)) (da_cons (de_var (pv 4)) da_nil)))))))))).imp imp__law_weighed
theorem ok__law_is_fraction (F : FnP K "_law_is_fraction" s__law_is_fraction f fd) (hm : mg "_law_is_fraction" = some (.ref f)) (h_isinstance : mg "isinstance" = none) (h_len : mg "len" = none) (h_tuple : mg "tuple" = none) (D__law_whole : Def P w K mg base "_law_whole" 1 1 M__law_whole) (D__law_divisor : Def P w K mg base "_law_divisor" 1 2 M__law_divisor) : Def P w K mg base "_law_is_fraction" 2 1 M__law_is_fraction :=
  (Def.ofD (N := N__law_is_fraction) F sc__law_is_fraction hm (FunD.bindsN (ps := ["_law_found"]) F fun _ _ _ _ _ _ us hl => match us, hl with | [_], _ => rfl) rfl B__law_is_fraction (fun cdv A outer s H E Hf B => (dss_cons (ds_if (dt_w (dw_or (dt_not (dt_val (de_isi .tup rfl h_isinstance (pe_bltn rfl h_tuple (by decide +kernel) rfl) (de_var (pv 0))))) (dw_or (dt_ne B (de_len rfl h_len (da_cons (de_var (pv 0)) da_nil)) de_int) (dw_or (dt_not (dt_val (de_call D__law_whole B (by decide) rfl (da_cons (de_ix (de_var (pv 0)) de_int) da_nil) rfl (hlen := (ar_cons ar_nil))))) (dw_or1 (dt_not (dt_val (de_call D__law_whole B (by decide) rfl (da_cons (de_ix (de_var (pv 0)) de_int) da_nil) rfl (hlen := (ar_cons ar_nil)))))))))) (dss_one (ds_ret de_bl)) dss_nil) (dss_one (ds_ret (de_and (de_gt (de_ix (de_var (pv 0)) de_int) de_int) (de_one (de_eq B (de_call D__law_divisor B (by decide) rfl (da_cons (de_ix (de_var (pv 0)) de_int) (da_cons (de_ix (de_var (pv 0)) de_int) da_nil)) rfl (hlen := (ar_cons (ar_cons ar_nil)))) de_int)))))))).imp (fun os h => .inr rfl)
theorem ok__law_last (F : FnP K "_law_last" s__law_last f fd) (hm : mg "_law_last" = some (.ref f)) (D__law_cut : Def P w K mg base "_law_cut" 1 1 M__law_cut) : Def P w K mg base "_law_last" 2 1 M__law_last :=
  (Def.ofD (N := N__law_last) F sc__law_last hm (FunD.bindsN (ps := ["_law_cell"]) F fun _ _ _ _ _ _ us hl => match us, hl with | [_], _ => rfl) rfl B__law_last (fun cdv A outer s H E Hf B => (dss_cons (ds_if (dt_eq B (de_mod (de_var (pv 0)) de_int) de_int) (dss_one (ds_ret (de_lst (da_cons de_int da_nil)))) dss_nil) (dss_cons (ds_set (i := 1) true sc__law_last.nd rfl (by first | exact Or.inl rfl | exact Or.inr rfl) (de_call D__law_cut B (by decide) rfl (da_cons (de_lst (da_cons (de_addA de_int (de_mod (de_fdiv (de_var (pv 0)) de_int) de_int)) (da_cons (de_mod (de_fdiv (de_var (pv 0)) de_int) de_int) (da_cons (de_mod (de_fdiv (de_var (pv 0)) de_int) de_int) da_nil)))) da_nil) rfl (hlen := (ar_cons ar_nil)))) (dss_cons (ds_if (dt_eq B (de_mod (de_fdiv (de_var (pv 0)) de_int) de_int) de_int) (dss_one (ds_put (i := 1) (pv 1) (de_addA de_int (de_mod (de_fdiv (de_var (pv 0)) de_int) (de_pow de_int de_int))) de_int)) dss_nil) (dss_cons (ds_if (dt_eq B (de_mod (de_var (pv 0)) de_int) de_int) (dss_frz 1 (dss_one (by first | exact (ds_lc (own := [("_law_number_here", 2)]) (i := 1) true B sc__law_last.nd rfl rfl (sw_true rfl rfl rfl (by decide +kernel)) (di_list (de_var (pv 1))) (blkOk_by (own := [("_law_number_here", 2)]) (N := N__law_last) (sc := defScope s__law_last) (by decide +kernel)) (fun _ _ _ _ _ => (dg_name (i := 2) (vs := [2]) sc__law_last.nd rfl (by first | exact Or.inl rfl | exact Or.inr rfl))) (fun _ _ _ _ _ => (de_neg (de_var (pv 2))))) | exact (ds_set (i := 1) true sc__law_last.nd rfl (by first | exact Or.inl rfl | exact Or.inr rfl) (de_lc (own := [("_law_number_here", 2)]) B sc__law_last.nd (di_list (de_var (pv 1))) (blkOk_by (own := [("_law_number_here", 2)]) (N := N__law_last) (sc := defScope s__law_last) (by decide +kernel)) (fun _ _ _ _ _ => (dg_name (i := 2) (vs := [2]) sc__law_last.nd rfl (by first | exact Or.inl rfl | exact Or.inr rfl))) (fun _ _ _ _ _ => (de_neg (de_var (pv 2))))))))) dss_nil) (dss_one (ds_retV (pv 1))))))))).imp (fun os h => .inr rfl)
theorem ok__law_roots (F : FnP K "_law_roots" s__law_roots f fd) (hm : mg "_law_roots" = some (.ref f)) (D__law_cell_at : Def P w K mg base "_law_cell_at" 1 2 M__law_cell_at) : Def P w K mg base "_law_roots" 2 1 M__law_roots :=
  (Def.ofD (N := N__law_roots) F sc__law_roots hm (FunD.bindsN (ps := ["_law_script"]) F fun _ _ _ _ _ _ us hl => match us, hl with | [_], _ => rfl) rfl B__law_roots (fun cdv A outer s H E Hf B => (dss_cons (ds_set (i := 1) false sc__law_roots.nd rfl (by first | exact Or.inl rfl | exact Or.inr rfl) (de_call D__law_cell_at B (by decide) rfl (da_cons (de_var (pv 0)) (da_cons de_int da_nil)) rfl (hlen := (ar_cons (ar_cons ar_nil))))) (dss_cons (ds_set (i := 2) false sc__law_roots.nd rfl (by first | exact Or.inl rfl | exact Or.inr rfl) de_int) (dss_cons (ds_if (dt_eq B (de_mod (de_fdiv (de_var (pv 1)) de_int) de_int) de_int) (dss_one (ds_set (i := 2) false sc__law_roots.nd rfl (by first | exact Or.inl rfl | exact Or.inr rfl) de_int)) dss_nil) (dss_cons (ds_set (i := 3) false sc__law_roots.nd rfl (by first | exact Or.inl rfl | exact Or.inr rfl) (de_lst (da_cons (de_call D__law_cell_at B (by decide) rfl (da_cons (de_var (pv 0)) (da_cons de_int da_nil)) rfl (hlen := (ar_cons (ar_cons ar_nil)))) (da_cons (de_fdiv (de_call D__law_cell_at B (by decide) rfl (da_cons (de_var (pv 0)) (da_cons de_int da_nil)) rfl (hlen := (ar_cons (ar_cons ar_nil)))) (de_var (pv 2))) (da_cons (de_call D__law_cell_at B (by decide) rfl (da_cons (de_var (pv 0)) (da_cons de_int da_nil)) rfl (hlen := (ar_cons (ar_cons ar_nil)))) da_nil))))) (dss_cons (ds_set (i := 4) true sc__law_roots.nd rfl (by first | exact Or.inl rfl | exact Or.inr rfl) (de_sl (de_lc (own := [("_law_one", 5)]) B sc__law_roots.nd (di_list (de_var (pv 3))) (blkOk_by (own := [("_law_one", 5)]) (N := N__law_roots) (sc := defScope s__law_roots) (by decide +kernel)) (fun _ _ _ _ _ => (dg_name (i := 5) (vs := [5]) sc__law_roots.nd rfl (by first | exact Or.inl rfl | exact Or.inr rfl))) (fun _ _ _ _ _ => (de_mod (de_var (pv 5)) (de_var (pv 2))))) dp_none (dp_some (de_mod (de_var (pv 1)) de_int)))) (dss_cons (ds_if (dt_w (dw_and (dt_eq B (de_var (pv 2)) de_int) (dw_and (dt_ne B (de_var (pv 4)) (de_lst da_nil)) (dw_and1 (dt_eq B (de_mod (de_fdiv (de_var (pv 1)) de_int) de_int) de_int))))) (dss_one (ds_put (i := 4) (pv 4) de_int de_int)) dss_nil) (dss_one (ds_retV (pv 4))))))))))).imp (fun os h => .inr rfl)
theorem ok_need_of (F : FnP K "need_of" s_need_of f fd) (hm : mg "need_of" = some (.ref f)) (D_order_of : Def P w K mg base "order_of" 2 1 M_order_of) (D_reach : Def P w K mg base "reach" 2 1 M_reach) : Def P w K mg base "need_of" 3 1 M_need_of :=
  (Def.ofD (N := N_need_of) F sc_need_of hm (FunD.bindsN (ps := ["rule"]) F fun _ _ _ _ _ _ us hl => match us, hl with | [_], _ => rfl) rfl B_need_of (fun cdv A outer s H E Hf B => (dss_one (ds_ret (de_addA (de_callZ D_order_of B (by decide) rfl (da_cons (de_var (pv 0)) da_nil) rfl (hlen := (ar_cons ar_nil))) (de_call D_reach B (by decide) rfl (da_cons (de_ix (de_var (pv 0)) (de_neg de_int)) da_nil) rfl (hlen := (ar_cons ar_nil)))))))).imp (fun os h => .inr rfl)
theorem ok_keeps (F : FnP K "keeps" s_keeps f fd) (hm : mg "keeps" = some (.ref f)) (h_len : mg "len" = none) (rx_NoPlace : DL.Rx K mg "NoPlace") (D_order_of : Def P w K mg base "order_of" 2 1 M_order_of) (D_weighed : Def P w K mg base "weighed" 1 2 M_weighed) (D_poly_value : Def P w K mg base "poly_value" 1 2 M_poly_value) : Def P w K mg base "keeps" 3 3 M_keeps :=
  (Def.ofD (N := N_keeps) F sc_keeps hm (FunD.bindsN (ps := ["rule", "values", "n"]) F fun _ _ _ _ _ _ us hl => match us, hl with | [_, _, _], _ => rfl) rfl B_keeps (fun cdv A outer s H E Hf B => (dss_cons (ds_set (i := 3) false sc_keeps.nd rfl (by first | exact Or.inl rfl | exact Or.inr rfl) (de_callZ D_order_of B (by decide) rfl (da_cons (de_var (pv 0)) da_nil) rfl (hlen := (ar_cons ar_nil)))) (dss_cons (ds_if (dt_w (dw_or (dt_lt (de_var (pv 2)) de_int) (dw_or1 (dt_ge (de_addA (de_var (pv 2)) (de_var (pv 3))) (de_len rfl h_len (da_cons (de_var (pv 1)) da_nil)))))) (dss_one (ds_raise rx_NoPlace B rfl)) dss_nil) (dss_cons (ds_asgT (dg_tup rfl (dgs_cons (dg_name (i := 4) (vs := [4, 5]) sc_keeps.nd rfl (by first | exact Or.inl rfl | exact Or.inr rfl)) (dgs_cons (dg_name (i := 5) (vs := [4, 5]) sc_keeps.nd rfl (by first | exact Or.inl rfl | exact Or.inr rfl)) dgs_nil))) (de_call D_weighed B (by decide) rfl (da_cons (de_lc (own := [("poly", 6)]) B sc_keeps.nd (di_list (de_var (pv 0))) (blkOk_by (own := [("poly", 6)]) (N := N_keeps) (sc := defScope s_keeps) (by decide +kernel)) (fun _ _ _ _ _ => (dg_name (i := 6) (vs := [6]) sc_keeps.nd rfl (by first | exact Or.inl rfl | exact Or.inr rfl))) (fun _ _ _ _ _ => (de_call D_poly_value (Bk.blk B) (by decide) rfl (da_cons (de_var (pv 6)) (da_cons (de_var (pv 2)) da_nil)) rfl (hlen := (ar_cons (ar_cons ar_nil)))))) (da_cons (de_sl (de_var (pv 1)) (dp_some (de_var (pv 2))) (dp_some (de_addA (de_addA (de_var (pv 2)) (de_var (pv 3))) de_int))) da_nil)) rfl (hlen := (ar_cons (ar_cons ar_nil))))) (dss_one (ds_ret (de_eq B (de_var (pv 4)) de_int)))))))).imp imp_keeps
theorem ok_next_one (F : FnP K "next_one" s_next_one f fd) (hm : mg "next_one" = some (.ref f)) (h_len : mg "len" = none) (D_weighed : Def P w K mg base "weighed" 1 2 M_weighed) (D_ratio : Def P w K mg base "ratio" 2 2 M_ratio) (D_order_of : Def P w K mg base "order_of" 2 1 M_order_of) (D_poly_value : Def P w K mg base "poly_value" 1 2 M_poly_value) : Def P w K mg base "next_one" 3 2 M_next_one :=
  (Def.ofD (N := N_next_one) F sc_next_one hm (FunD.bindsN (ps := ["rule", "values"]) F fun _ _ _ _ _ _ us hl => match us, hl with | [_, _], _ => rfl) rfl B_next_one (fun cdv A outer s H E Hf B => (dss_cons (ds_set (i := 2) false sc_next_one.nd rfl (by first | exact Or.inl rfl | exact Or.inr rfl) (de_sub (de_len rfl h_len (da_cons (de_var (pv 1)) da_nil)) (de_callZ D_order_of B (by decide) rfl (da_cons (de_var (pv 0)) da_nil) rfl (hlen := (ar_cons ar_nil))))) (dss_cons (by first | exact (ds_lc (own := [("poly", 6)]) (i := 3) false B sc_next_one.nd rfl rfl (sw_true rfl rfl rfl (by decide +kernel)) (di_list (de_var (pv 0))) (blkOk_by (own := [("poly", 6)]) (N := N_next_one) (sc := defScope s_next_one) (by decide +kernel)) (fun _ _ _ _ _ => (dg_name (i := 6) (vs := [6]) sc_next_one.nd rfl (by first | exact Or.inl rfl | exact Or.inr rfl))) (fun _ _ _ _ _ => (de_call D_poly_value (Bk.blk B) (by decide) rfl (da_cons (de_var (pv 6)) (da_cons (de_var (pv 2)) da_nil)) rfl (hlen := (ar_cons (ar_cons ar_nil)))))) | exact (ds_set (i := 3) false sc_next_one.nd rfl (by first | exact Or.inl rfl | exact Or.inr rfl) (de_lc (own := [("poly", 6)]) B sc_next_one.nd (di_list (de_var (pv 0))) (blkOk_by (own := [("poly", 6)]) (N := N_next_one) (sc := defScope s_next_one) (by decide +kernel)) (fun _ _ _ _ _ => (dg_name (i := 6) (vs := [6]) sc_next_one.nd rfl (by first | exact Or.inl rfl | exact Or.inr rfl))) (fun _ _ _ _ _ => (de_call D_poly_value (Bk.blk B) (by decide) rfl (da_cons (de_var (pv 6)) (da_cons (de_var (pv 2)) da_nil)) rfl (hlen := (ar_cons (ar_cons ar_nil)))))))) (dss_cons (ds_asgT (dg_tup rfl (dgs_cons (dg_name (i := 4) (vs := [4, 5]) sc_next_one.nd rfl (by first | exact Or.inl rfl | exact Or.inr rfl)) (dgs_cons (dg_name (i := 5) (vs := [4, 5]) sc_next_one.nd rfl (by first | exact Or.inl rfl | exact Or.inr rfl)) dgs_nil))) (de_call D_weighed B (by decide) rfl (da_cons (de_sl (de_var (pv 3)) dp_none (dp_some (de_neg de_int))) (da_cons (de_sl (de_var (pv 1)) (dp_some (de_var (pv 2))) dp_none) da_nil)) rfl (hlen := (ar_cons (ar_cons ar_nil))))) (dss_one (ds_ret (de_call D_ratio B (by decide) rfl (da_cons (de_neg (de_var (pv 4))) (da_cons (de_mulA (de_var (pv 5)) (de_ix (de_var (pv 3)) (de_neg de_int))) da_nil)) rfl (hlen := (ar_cons (ar_cons ar_nil))))))))))).imp (fun os h => .inr rfl)
theorem ok__law_fraction (F : FnP K "_law_fraction" s__law_fraction f fd) (hm : mg "_law_fraction" = some (.ref f)) (D__law_lowest : Def P w K mg base "_law_lowest" 2 2 M__law_lowest) (D__law_number : Def P w K mg base "_law_number" 1 2 M__law_number) : Def P w K mg base "_law_fraction" 3 1 M__law_fraction :=
  (Def.ofD (N := N__law_fraction) F sc__law_fraction hm (FunD.bindsN (ps := ["_law_cell"]) F fun _ _ _ _ _ _ us hl => match us, hl with | [_], _ => rfl) rfl B__law_fraction (fun cdv A outer s H E Hf B => (dss_cons (ds_set (i := 1) false sc__law_fraction.nd rfl (by first | exact Or.inl rfl | exact Or.inr rfl) (de_mod (de_var (pv 0)) de_int)) (dss_cons (ds_set (i := 1) false sc__law_fraction.nd rfl (by first | exact Or.inl rfl | exact Or.inr rfl) (de_mod (de_mulA (de_addA (de_mulA (de_var (pv 1)) (de_var (pv 1))) de_int) de_int) de_int)) (dss_cons (ds_set (i := 2) false sc__law_fraction.nd rfl (by first | exact Or.inl rfl | exact Or.inr rfl) (de_ix (de_lst (da_cons de_int (da_cons de_int (da_cons (de_addA de_int (de_mod (de_fdiv (de_var (pv 1)) de_int) de_int)) (da_cons (de_addA de_int (de_mod (de_fdiv (de_var (pv 1)) de_int) de_int)) da_nil))))) (de_mod (de_var (pv 1)) de_int))) (dss_one (ds_ret (de_call D__law_lowest B (by decide) rfl (da_cons (de_call D__law_number B (by decide) rfl (da_cons (de_var (pv 0)) (da_cons (de_pow de_int de_int) da_nil)) rfl (hlen := (ar_cons (ar_cons ar_nil)))) (da_cons (de_var (pv 2)) da_nil)) rfl (hlen := (ar_cons (ar_cons ar_nil))))))))))).imp (fun os h => .inr rfl)
theorem ok__law_parts (F : FnP K "_law_parts" s__law_parts f fd) (hm : mg "_law_parts" = some (.ref f)) (h_range : mg "range" = none) (D__law_cell_at : Def P w K mg base "_law_cell_at" 1 2 M__law_cell_at) (D__law_number : Def P w K mg base "_law_number" 1 2 M__law_number) (D__law_cut : Def P w K mg base "_law_cut" 1 1 M__law_cut) (D__law_last : Def P w K mg base "_law_last" 2 1 M__law_last) : Def P w K mg base "_law_parts" 3 1 M__law_parts :=
  (Def.ofD (N := N__law_parts) F sc__law_parts hm (FunD.bindsN (ps := ["_law_script"]) F fun _ _ _ _ _ _ us hl => match us, hl with | [_], _ => rfl) rfl B__law_parts (fun cdv A outer s H E Hf B => (dss_cons (ds_set (i := 1) false sc__law_parts.nd rfl (by first | exact Or.inl rfl | exact Or.inr rfl) (de_eq B (de_mod (de_fdiv (de_call D__law_cell_at B (by decide) rfl (da_cons (de_var (pv 0)) (da_cons de_int da_nil)) rfl (hlen := (ar_cons (ar_cons ar_nil)))) de_int) de_int) de_int)) (dss_cons (ds_set (i := 2) true sc__law_parts.nd rfl (by first | exact Or.inl rfl | exact Or.inr rfl) (de_lst da_nil)) (dss_cons (ds_for B (di_rng1 rfl h_range (da_cons (de_mod (de_call D__law_cell_at B (by decide) rfl (da_cons (de_var (pv 0)) (da_cons de_int da_nil)) rfl (hlen := (ar_cons (ar_cons ar_nil)))) de_int) da_nil)) (dg_name (i := 3) (vs := [3]) sc__law_parts.nd rfl (by first | exact Or.inl rfl | exact Or.inr rfl)) (dss_cons (ds_set (i := 4) false sc__law_parts.nd rfl (by first | exact Or.inl rfl | exact Or.inr rfl) (de_mod (de_call D__law_cell_at B (by decide) rfl (da_cons (de_var (pv 0)) (da_cons (de_addA de_int (de_mulA de_int (de_var (pv 3)))) da_nil)) rfl (hlen := (ar_cons (ar_cons ar_nil)))) de_int)) (dss_cons (ds_set (i := 5) false sc__law_parts.nd rfl (by first | exact Or.inl rfl | exact Or.inr rfl) (de_mod (de_mod (de_mulA (de_addA (de_mulA (de_var (pv 4)) (de_var (pv 4))) de_int) de_int) de_int) de_int)) (dss_cons (by first | exact (ds_lc (own := [("_law_j", 7)]) (i := 6) false B sc__law_parts.nd rfl rfl (sw_true rfl rfl rfl (by decide +kernel)) (di_rng1 rfl h_range (da_cons (de_var (pv 5)) da_nil)) (blkOk_by (own := [("_law_j", 7)]) (N := N__law_parts) (sc := defScope s__law_parts) (by decide +kernel)) (fun _ _ _ _ _ => (dg_name (i := 7) (vs := [7]) sc__law_parts.nd rfl (by first | exact Or.inl rfl | exact Or.inr rfl))) (fun _ _ _ _ _ => (de_call D__law_number (Bk.blk B) (by decide) rfl (da_cons (de_call D__law_cell_at (Bk.blk B) (by decide) rfl (da_cons (de_var (pv 0)) (da_cons (de_addA (de_addA de_int (de_mulA de_int (de_var (pv 3)))) (de_var (pv 7))) da_nil)) rfl (hlen := (ar_cons (ar_cons ar_nil)))) (da_cons (de_pow de_int de_int) da_nil)) rfl (hlen := (ar_cons (ar_cons ar_nil)))))) | exact (ds_set (i := 6) false sc__law_parts.nd rfl (by first | exact Or.inl rfl | exact Or.inr rfl) (de_lc (own := [("_law_j", 7)]) B sc__law_parts.nd (di_rng1 rfl h_range (da_cons (de_var (pv 5)) da_nil)) (blkOk_by (own := [("_law_j", 7)]) (N := N__law_parts) (sc := defScope s__law_parts) (by decide +kernel)) (fun _ _ _ _ _ => (dg_name (i := 7) (vs := [7]) sc__law_parts.nd rfl (by first | exact Or.inl rfl | exact Or.inr rfl))) (fun _ _ _ _ _ => (de_call D__law_number (Bk.blk B) (by decide) rfl (da_cons (de_call D__law_cell_at (Bk.blk B) (by decide) rfl (da_cons (de_var (pv 0)) (da_cons (de_addA (de_addA de_int (de_mulA de_int (de_var (pv 3)))) (de_var (pv 7))) da_nil)) rfl (hlen := (ar_cons (ar_cons ar_nil)))) (da_cons (de_pow de_int de_int) da_nil)) rfl (hlen := (ar_cons (ar_cons ar_nil)))))))) (dss_cons (ds_if (dt_val (de_var (pv 1))) (dss_one (by first | exact (ds_lc (own := [("_law_j", 7)]) (i := 6) false B sc__law_parts.nd rfl rfl (sw_true rfl rfl rfl (by decide +kernel)) (di_rng1 rfl h_range (da_cons (de_mod (de_var (pv 5)) de_int) da_nil)) (blkOk_by (own := [("_law_j", 7)]) (N := N__law_parts) (sc := defScope s__law_parts) (by decide +kernel)) (fun _ _ _ _ _ => (dg_name (i := 7) (vs := [7]) sc__law_parts.nd rfl (by first | exact Or.inl rfl | exact Or.inr rfl))) (fun _ _ _ _ _ => (de_sub (de_mod (de_call D__law_cell_at (Bk.blk B) (by decide) rfl (da_cons (de_var (pv 0)) (da_cons (de_addA (de_addA de_int (de_mulA de_int (de_var (pv 3)))) (de_var (pv 7))) da_nil)) rfl (hlen := (ar_cons (ar_cons ar_nil)))) de_int) de_int))) | exact (ds_set (i := 6) false sc__law_parts.nd rfl (by first | exact Or.inl rfl | exact Or.inr rfl) (de_lc (own := [("_law_j", 7)]) B sc__law_parts.nd (di_rng1 rfl h_range (da_cons (de_mod (de_var (pv 5)) de_int) da_nil)) (blkOk_by (own := [("_law_j", 7)]) (N := N__law_parts) (sc := defScope s__law_parts) (by decide +kernel)) (fun _ _ _ _ _ => (dg_name (i := 7) (vs := [7]) sc__law_parts.nd rfl (by first | exact Or.inl rfl | exact Or.inr rfl))) (fun _ _ _ _ _ => (de_sub (de_mod (de_call D__law_cell_at (Bk.blk B) (by decide) rfl (da_cons (de_var (pv 0)) (da_cons (de_addA (de_addA de_int (de_mulA de_int (de_var (pv 3)))) (de_var (pv 7))) da_nil)) rfl (hlen := (ar_cons (ar_cons ar_nil)))) de_int) de_int)))))) dss_nil) (dss_one (ds_app (i := 2) (pv 2) (de_call D__law_cut B (by decide) rfl (da_cons (de_var (pv 6)) da_nil) rfl (hlen := (ar_cons ar_nil)))))))))) (dss_cons (ds_if (dt_val (de_var (pv 1))) (dss_one (ds_ret (de_addA (de_var (pv 2)) (de_lst (da_cons (de_lst (da_cons de_int da_nil)) da_nil))))) dss_nil) (dss_one (ds_ret (de_addA (de_var (pv 2)) (de_lst (da_cons (de_call D__law_last B (by decide) rfl (da_cons (de_call D__law_cell_at B (by decide) rfl (da_cons (de_var (pv 0)) (da_cons de_int da_nil)) rfl (hlen := (ar_cons (ar_cons ar_nil)))) da_nil) rfl (hlen := (ar_cons ar_nil))) da_nil))))))))))).imp (fun os h => .inr rfl)
theorem ok__law_rule (F : FnP K "_law_rule" s__law_rule f fd) (hm : mg "_law_rule" = some (.ref f)) (D__law_product : Def P w K mg base "_law_product" 2 2 M__law_product) : Def P w K mg base "_law_rule" 3 2 M__law_rule :=
  (Def.ofD (N := N__law_rule) F sc__law_rule hm (FunD.bindsN (ps := ["_law_parts_here", "_law_roots_here"]) F fun _ _ _ _ _ _ us hl => match us, hl with | [_, _], _ => rfl) rfl B__law_rule (fun cdv A outer s H E Hf B => (dss_cons (ds_set (i := 2) false sc__law_rule.nd rfl (by first | exact Or.inl rfl | exact Or.inr rfl) (de_var (pv 0))) (dss_cons (ds_for B (di_list (de_var (pv 1))) (dg_name (i := 3) (vs := [3]) sc__law_rule.nd rfl (by first | exact Or.inl rfl | exact Or.inr rfl)) (dss_one (by first | exact (ds_lc (own := [("_law_part", 4)]) (i := 2) false B sc__law_rule.nd rfl rfl (sw_true rfl rfl rfl (by decide +kernel)) (di_list (de_var (pv 2))) (blkOk_by (own := [("_law_part", 4)]) (N := N__law_rule) (sc := defScope s__law_rule) (by decide +kernel)) (fun _ _ _ _ _ => (dg_name (i := 4) (vs := [4]) sc__law_rule.nd rfl (by first | exact Or.inl rfl | exact Or.inr rfl))) (fun _ _ _ _ _ => (de_call D__law_product (Bk.blk B) (by decide) rfl (da_cons (de_var (pv 4)) (da_cons (de_lst (da_cons (de_neg (de_var (pv 3))) (da_cons de_int da_nil))) da_nil)) rfl (hlen := (ar_cons (ar_cons ar_nil)))))) | exact (ds_set (i := 2) false sc__law_rule.nd rfl (by first | exact Or.inl rfl | exact Or.inr rfl) (de_lc (own := [("_law_part", 4)]) B sc__law_rule.nd (di_list (de_var (pv 2))) (blkOk_by (own := [("_law_part", 4)]) (N := N__law_rule) (sc := defScope s__law_rule) (by decide +kernel)) (fun _ _ _ _ _ => (dg_name (i := 4) (vs := [4]) sc__law_rule.nd rfl (by first | exact Or.inl rfl | exact Or.inr rfl))) (fun _ _ _ _ _ => (de_call D__law_product (Bk.blk B) (by decide) rfl (da_cons (de_var (pv 4)) (da_cons (de_lst (da_cons (de_neg (de_var (pv 3))) (da_cons de_int da_nil))) da_nil)) rfl (hlen := (ar_cons (ar_cons ar_nil)))))))))) (dss_one (ds_ret (de_var (pv 2)))))))).imp (fun os h => .inr rfl)
theorem ok__law_keeps (F : FnP K "_law_keeps" s__law_keeps f fd) (hm : mg "_law_keeps" = some (.ref f)) (h_len : mg "len" = none) (h_range : mg "range" = none) (D__law_weighed : Def P w K mg base "_law_weighed" 2 3 M__law_weighed) : Def P w K mg base "_law_keeps" 3 2 M__law_keeps :=
  (Def.ofD (N := N__law_keeps) F sc__law_keeps hm (FunD.bindsN (ps := ["_law_rule_here", "_law_values_here"]) F fun _ _ _ _ _ _ us hl => match us, hl with | [_, _], _ => rfl) rfl B__law_keeps (fun cdv A outer s H E Hf B => (dss_cons (ds_for B (di_rng1 rfl h_range (da_cons (de_addA (de_sub (de_len rfl h_len (da_cons (de_var (pv 1)) da_nil)) (de_len rfl h_len (da_cons (de_var (pv 0)) da_nil))) de_int) da_nil)) (dg_name (i := 2) (vs := [2]) sc__law_keeps.nd rfl (by first | exact Or.inl rfl | exact Or.inr rfl)) (dss_one (ds_if (dt_ne B (de_ix (de_call D__law_weighed B (by decide) rfl (da_cons (de_var (pv 0)) (da_cons (de_var (pv 1)) (da_cons (de_var (pv 2)) da_nil))) rfl (hlen := (ar_cons (ar_cons (ar_cons ar_nil))))) de_int) de_int) (dss_one (ds_ret de_bl)) dss_nil))) (dss_one (ds_ret de_bl))))).imp (fun os h => .inr rfl)
theorem ok_look_at_first (F : FnP K "look_at_first" s_look_at_first f fd) (hm : mg "look_at_first" = some (.ref f)) (h_len : mg "len" = none) (h_range : mg "range" = none) (rx_TooFew : DL.Rx K mg "TooFew") (D_need_of : Def P w K mg base "need_of" 3 1 M_need_of) (D_order_of : Def P w K mg base "order_of" 2 1 M_order_of) (D_keeps : Def P w K mg base "keeps" 3 3 M_keeps) : Def P w K mg base "look_at_first" 4 2 M_look_at_first :=
  (Def.ofD (N := N_look_at_first) F sc_look_at_first hm (FunD.bindsN (ps := ["rule", "first"]) F fun _ _ _ _ _ _ us hl => match us, hl with | [_, _], _ => rfl) rfl B_look_at_first (fun cdv A outer s H E Hf B => (dss_cons (ds_if (dt_lt (de_len rfl h_len (da_cons (de_var (pv 1)) da_nil)) (de_callZ D_need_of B (by decide) rfl (da_cons (de_var (pv 0)) da_nil) rfl (hlen := (ar_cons ar_nil)))) (dss_one (ds_raise rx_TooFew B rfl)) dss_nil) (dss_one (ds_for B (di_rng1 rfl h_range (da_cons (de_sub (de_len rfl h_len (da_cons (de_var (pv 1)) da_nil)) (de_callZ D_order_of B (by decide) rfl (da_cons (de_var (pv 0)) da_nil) rfl (hlen := (ar_cons ar_nil)))) da_nil)) (dg_name (i := 2) (vs := [2]) sc_look_at_first.nd rfl (by first | exact Or.inl rfl | exact Or.inr rfl)) (dss_one (ds_if (dt_not (dt_val (de_callZ D_keeps B (by decide) rfl (da_cons (de_var (pv 0)) (da_cons (de_var (pv 1)) (da_cons (de_var (pv 2)) da_nil))) rfl (hlen := (ar_cons (ar_cons (ar_cons ar_nil))))))) (dss_one ds_dead) dss_nil))))))).imp (fun os h => .inr rfl)
theorem ok__law_values (F : FnP K "_law_values" s__law_values f fd) (hm : mg "_law_values" = some (.ref f)) (h_len : mg "len" = none) (h_range : mg "range" = none) (D__law_weighed : Def P w K mg base "_law_weighed" 2 3 M__law_weighed) (D__law_fraction : Def P w K mg base "_law_fraction" 3 1 M__law_fraction) (D__law_lowest : Def P w K mg base "_law_lowest" 2 2 M__law_lowest) (D__law_value : Def P w K mg base "_law_value" 1 2 M__law_value) : Def P w K mg base "_law_values" 4 4 M__law_values :=
  (Def.ofD (N := N__law_values) F sc__law_values hm (FunD.bindsN (ps := ["_law_parts_here", "_law_roots_here", "_law_cells", "_law_many"]) F fun _ _ _ _ _ _ us hl => match us, hl with | [_, _, _, _], _ => rfl) rfl B__law_values (fun cdv A outer s H E Hf B => (dss_cons (ds_set (i := 4) true sc__law_values.nd rfl (by first | exact Or.inl rfl | exact Or.inr rfl) (de_lst da_nil)) (dss_cons (ds_for B (di_rng1 rfl h_range (da_cons (de_var (pv 3)) da_nil)) (dg_name (i := 5) (vs := [5]) sc__law_values.nd rfl (by first | exact Or.inl rfl | exact Or.inr rfl)) (dss_cons (ds_set (i := 6) false sc__law_values.nd rfl (by first | exact Or.inl rfl | exact Or.inr rfl) (de_addA (de_sub (de_var (pv 5)) (de_len rfl h_len (da_cons (de_var (pv 0)) da_nil))) de_int)) (dss_one (ds_if (dt_w (dw_or (dt_lt (de_var (pv 6)) de_int) (dw_or1 (dt_in B (de_var (pv 6)) (de_var (pv 1)))))) (dss_one (ds_app (i := 4) (pv 4) (de_call D__law_fraction B (by decide) rfl (da_cons (de_ix (de_addA (de_var (pv 2)) (de_lst (da_cons (de_var (pv 5)) da_nil))) (de_mod (de_var (pv 5)) (de_addA (de_len rfl h_len (da_cons (de_var (pv 2)) da_nil)) de_int))) da_nil) rfl (hlen := (ar_cons ar_nil))))) (dss_cons (ds_asgT (dg_tup rfl (dgs_cons (dg_name (i := 7) (vs := [7, 8]) sc__law_values.nd rfl (by first | exact Or.inl rfl | exact Or.inr rfl)) (dgs_cons (dg_name (i := 8) (vs := [7, 8]) sc__law_values.nd rfl (by first | exact Or.inl rfl | exact Or.inr rfl)) dgs_nil))) (de_call D__law_weighed B (by decide) rfl (da_cons (de_sl (de_var (pv 0)) dp_none (dp_some (de_neg de_int))) (da_cons (de_var (pv 4)) (da_cons (de_var (pv 6)) da_nil))) rfl (hlen := (ar_cons (ar_cons (ar_cons ar_nil)))))) (dss_one (ds_app (i := 4) (pv 4) (de_call D__law_lowest B (by decide) rfl (da_cons (de_neg (de_var (pv 7))) (da_cons (de_mulA (de_var (pv 8)) (de_call D__law_value B (by decide) rfl (da_cons (de_ix (de_var (pv 0)) (de_neg de_int)) (da_cons (de_var (pv 6)) da_nil)) rfl (hlen := (ar_cons (ar_cons ar_nil))))) da_nil)) rfl (hlen := (ar_cons (ar_cons ar_nil))))))))))) (dss_one (ds_retV (pv 4))))))).imp (fun os h => .inr rfl)
theorem ok_carried_on (F : FnP K "carried_on" s_carried_on f fd) (hm : mg "carried_on" = some (.ref f)) (h_len : mg "len" = none) (h_list : mg "list" = none) (D_look_at_first : Def P w K mg base "look_at_first" 4 2 M_look_at_first) (D_next_one : Def P w K mg base "next_one" 3 2 M_next_one) : Def P w K mg base "carried_on" 5 3 M_carried_on :=
  (Def.ofD (N := N_carried_on) F sc_carried_on hm (FunD.bindsN (ps := ["rule", "first", "many"]) F fun _ _ _ _ _ _ us hl => match us, hl with | [_, _, _], _ => rfl) rfl B_carried_on (fun cdv A outer s H E Hf B => (dss_cons (ds_expr (de_callZ D_look_at_first B (by decide) rfl (da_cons (de_var (pv 0)) (da_cons (de_var (pv 1)) da_nil)) rfl (hlen := (ar_cons (ar_cons ar_nil))))) (dss_cons (ds_set (i := 3) true sc_carried_on.nd rfl (by first | exact Or.inl rfl | exact Or.inr rfl) (de_Ty call_list_of pc_list rfl h_list (by decide +kernel) (da_cons (de_sl (de_var (pv 1)) dp_none (dp_some (de_var (pv 2)))) da_nil))) (dss_cons (ds_wh (fun r => slotN 2 r + 1) B (dt_lt (de_len rfl h_len (da_cons (de_var (pv 3)) da_nil)) (de_var (pv 2))) (dss_one (ds_app (i := 3) (pv 3) (de_call D_next_one B (by decide) rfl (da_cons (de_var (pv 0)) (da_cons (de_var (pv 3)) da_nil)) rfl (hlen := (ar_cons (ar_cons ar_nil))))))) (dss_one (ds_retV (pv 3)))))))).imp (fun os h => .inr rfl)
theorem ok__law_powers (F : FnP K "_law_powers" s__law_powers f fd) (hm : mg "_law_powers" = some (.ref f)) (h_range : mg "range" = none) (D_carried_on : Def P w K mg base "carried_on" 5 3 M_carried_on) (D__law_cut : Def P w K mg base "_law_cut" 1 1 M__law_cut) : Def P w K mg base "_law_powers" 6 1 M__law_powers :=
  (Def.ofD (N := N__law_powers) F sc__law_powers hm (FunD.bindsN (ps := ["_law_cell"]) F fun _ _ _ _ _ _ us hl => match us, hl with | [_], _ => rfl) rfl B__law_powers (fun cdv A outer s H E Hf B => (dss_cons (ds_set (i := 1) false sc__law_powers.nd rfl (by first | exact Or.inl rfl | exact Or.inr rfl) (de_sub (de_mod (de_var (pv 0)) de_int) de_int)) (dss_cons (ds_set (i := 2) false sc__law_powers.nd rfl (by first | exact Or.inl rfl | exact Or.inr rfl) (de_mod (de_fdiv (de_var (pv 0)) de_int) (de_pow de_int de_int))) (dss_cons (ds_set (i := 3) true sc__law_powers.nd rfl (by first | exact Or.inl rfl | exact Or.inr rfl) (de_lst da_nil)) (dss_cons (ds_for B (di_rng1 rfl h_range (da_cons de_int da_nil)) (dg_name (i := 4) (vs := [4]) sc__law_powers.nd rfl (by first | exact Or.inl rfl | exact Or.inr rfl)) (dss_cons (ds_app (i := 3) (pv 3) (de_tup (da_cons (de_var (pv 2)) (da_cons de_int da_nil)))) (dss_one (ds_set (i := 2) false sc__law_powers.nd rfl (by first | exact Or.inl rfl | exact Or.inr rfl) (de_mulA (de_var (pv 2)) (de_var (pv 1))))))) (dss_one (ds_ret (de_eq B (de_call D_carried_on B (by decide) rfl (da_cons (de_lst (da_cons (de_call D__law_cut B (by decide) rfl (da_cons (de_lst (da_cons (de_neg (de_var (pv 1))) da_nil)) da_nil) rfl (hlen := (ar_cons ar_nil))) (da_cons (de_lst (da_cons de_int da_nil)) da_nil))) (da_cons (de_sl (de_var (pv 3)) dp_none (dp_some (de_addA de_int (de_mod (de_var (pv 0)) de_int)))) (da_cons de_int da_nil))) rfl (hlen := (ar_cons (ar_cons (ar_cons ar_nil))))) (de_var (pv 3))))))))))).imp (fun os h => .inr rfl)
theorem ok_law (F : FnP K "law" s_law f fd) (h_isinstance : mg "isinstance" = none) (h_len : mg "len" = none) (h_list : mg "list" = none) (D__law_parts : Def P w K mg base "_law_parts" 3 1 M__law_parts) (D__law_roots : Def P w K mg base "_law_roots" 2 1 M__law_roots) (D__law_rule : Def P w K mg base "_law_rule" 3 2 M__law_rule) (D__law_cell_at : Def P w K mg base "_law_cell_at" 1 2 M__law_cell_at) (D__law_values : Def P w K mg base "_law_values" 4 4 M__law_values) (D_carried_on : Def P w K mg base "carried_on" 5 3 M_carried_on) (D__law_powers : Def P w K mg base "_law_powers" 6 1 M__law_powers) (D__law_need : Def P w K mg base "_law_need" 1 2 M__law_need) (D__law_is_fraction : Def P w K mg base "_law_is_fraction" 2 1 M__law_is_fraction) (D__law_keeps : Def P w K mg base "_law_keeps" 3 2 M__law_keeps) : FnOk P w K mg base CX0 7 f fd ["_law_script"] (DL.spLaw K) :=
  law_ok (N := N_law) F sc_law B_law (fun cdv A outer s H E B => (dss_cons (ds_set (i := 1) false sc_law.nd rfl (by first | exact Or.inl rfl | exact Or.inr rfl) (de_call D__law_parts B (by decide) rfl (da_cons (de_var (pv 0)) da_nil) rfl (hlen := (ar_cons ar_nil)))) (dss_cons (ds_set (i := 2) false sc_law.nd rfl (by first | exact Or.inl rfl | exact Or.inr rfl) (de_call D__law_roots B (by decide) rfl (da_cons (de_var (pv 0)) da_nil) rfl (hlen := (ar_cons ar_nil)))) (dss_cons (ds_set (i := 3) false sc_law.nd rfl (by first | exact Or.inl rfl | exact Or.inr rfl) (de_call D__law_rule B (by decide) rfl (da_cons (de_var (pv 1)) (da_cons (de_var (pv 2)) da_nil)) rfl (hlen := (ar_cons (ar_cons ar_nil))))) (dss_cons (ds_set (i := 4) false sc_law.nd rfl (by first | exact Or.inl rfl | exact Or.inr rfl) (de_call D__law_cell_at B (by decide) rfl (da_cons (de_var (pv 0)) (da_cons de_int da_nil)) rfl (hlen := (ar_cons (ar_cons ar_nil))))) (dss_cons (ds_set (i := 5) false sc_law.nd rfl (by first | exact Or.inl rfl | exact Or.inr rfl) (de_call D__law_values B (by decide) rfl (da_cons (de_var (pv 1)) (da_cons (de_var (pv 2)) (da_cons (de_sl (de_var (pv 0)) (dp_some de_int) (dp_some de_int)) (da_cons (de_addA (de_callZ D__law_need B (by decide) rfl (da_cons (de_var (pv 1)) (da_cons (de_var (pv 2)) da_nil)) rfl (hlen := (ar_cons (ar_cons ar_nil)))) (de_mod (de_var (pv 4)) de_int)) da_nil)))) rfl (hlen := (ar_cons (ar_cons (ar_cons (ar_cons ar_nil))))))) (dss_cons (ds_set (i := 6) false sc_law.nd rfl (by first | exact Or.inl rfl | exact Or.inr rfl) (de_mod (de_fdiv (de_var (pv 4)) de_int) (de_addA (de_len rfl h_len (da_cons (de_var (pv 5)) da_nil)) de_int))) (dss_cons (ds_set (i := 7) false sc_law.nd rfl (by first | exact Or.inl rfl | exact Or.inr rfl) (de_lst (da_cons (de_lc (own := [("_law_poly", 11)]) B sc_law.nd (di_list (de_var (pv 3))) (blkOk_by (own := [("_law_poly", 11)]) (N := N_law) (sc := defScope s_law) (by decide +kernel)) (fun _ _ _ _ _ => (dg_name (i := 11) (vs := [11]) sc_law.nd rfl (by first | exact Or.inl rfl | exact Or.inr rfl))) (fun _ _ _ _ _ => (de_Ty call_list_of pc_list rfl h_list (by decide +kernel) (da_cons (de_var (pv 11)) da_nil)))) (da_cons (de_Ty call_list_of pc_list rfl h_list (by decide +kernel) (da_cons (de_var (pv 5)) da_nil)) da_nil)))) (dss_cons (ds_set (i := 8) true sc_law.nd rfl (by first | exact Or.inl rfl | exact Or.inr rfl) (de_call D_carried_on B (by decide) rfl (da_cons (de_ix (de_var (pv 7)) de_int) (da_cons (de_ix (de_var (pv 7)) de_int) (da_cons (de_var (pv 6)) da_nil))) rfl (hlen := (ar_cons (ar_cons (ar_cons ar_nil)))))) (dss_cons (ds_if (dt_w (dw_or (dt_not (dt_val (de_isi .lst rfl h_isinstance (pe_bltn rfl h_list (by decide +kernel) rfl) (de_var (pv 8))))) (dw_or (dt_ne B (de_len rfl h_len (da_cons (de_var (pv 8)) da_nil)) (de_var (pv 6))) (dw_or1 (dt_ne B (de_sl (de_var (pv 8)) dp_none (dp_some (de_len rfl h_len (da_cons (de_var (pv 5)) da_nil)))) (de_sl (de_var (pv 5)) dp_none (dp_some (de_var (pv 6))))))))) (dss_one (ds_ret de_bl)) dss_nil) (dss_cons (ds_forV (i := 8) (j := 9) (x := "") (y := "") B (pv 8) (pg_name (i := 9) sc_law.nd rfl (by first | exact Or.inl rfl | exact Or.inr rfl)) (dt_not (dt_val (de_callZ D__law_is_fraction B (by decide) rfl (da_cons (de_var (pv 9)) da_nil) rfl (hlen := (ar_cons ar_nil))))) de_bl) (dss_cons (ds_if (dt_w (dw_or (dt_not (dt_val (de_callZ D__law_keeps B (by decide) rfl (da_cons (de_var (pv 3)) (da_cons (de_var (pv 8)) da_nil)) rfl (hlen := (ar_cons (ar_cons ar_nil)))))) (dw_or1 (dt_ne B (de_var (pv 7)) (de_lst (da_cons (de_var (pv 3)) (da_cons (de_var (pv 5)) da_nil))))))) (dss_one (ds_ret de_bl)) dss_nil) (dss_cons (ds_set (i := 10) false sc_law.nd rfl (by first | exact Or.inl rfl | exact Or.inr rfl) (de_Ty call_list_of pc_list rfl h_list (by decide +kernel) (da_cons (de_var (pv 8)) da_nil))) (dss_cons (ds_clear (i := 8) (pv 8)) (dss_cons (ds_if (dt_ne B (de_call D_carried_on B (by decide) rfl (da_cons (de_ix (de_var (pv 7)) de_int) (da_cons (de_ix (de_var (pv 7)) de_int) (da_cons (de_var (pv 6)) da_nil))) rfl (hlen := (ar_cons (ar_cons (ar_cons ar_nil))))) (de_var (pv 10))) (dss_one (ds_ret de_bl)) dss_nil) (dss_one (ds_ret (de_or (de_ne B (de_mod (de_fdiv (de_call D__law_cell_at B (by decide) rfl (da_cons (de_var (pv 0)) (da_cons de_int da_nil)) rfl (hlen := (ar_cons (ar_cons ar_nil)))) de_int) de_int) de_int) (de_one (de_call D__law_powers B (by decide) rfl (da_cons (de_fdiv (de_call D__law_cell_at B (by decide) rfl (da_cons (de_var (pv 0)) (da_cons de_int da_nil)) rfl (hlen := (ar_cons (ar_cons ar_nil)))) de_int) da_nil) rfl (hlen := (ar_cons ar_nil)))))))))))))))))))))) hlaw
def d_poly_value : He.DefD := ⟨("poly_value", none), "poly_value", "poly_value", defArgs s_poly_value, defBody s_poly_value, defScope s_poly_value, [], []⟩
def d_shifted : He.DefD := ⟨("shifted", none), "shifted", "shifted", defArgs s_shifted, defBody s_shifted, defScope s_shifted, [], []⟩
def d_divisor : He.DefD := ⟨("divisor", none), "divisor", "divisor", defArgs s_divisor, defBody s_divisor, defScope s_divisor, [], []⟩
def d_one_sign : He.DefD := ⟨("one_sign", none), "one_sign", "one_sign", defArgs s_one_sign, defBody s_one_sign, defScope s_one_sign, [], []⟩
def d_look_at_rule : He.DefD := ⟨("look_at_rule", none), "look_at_rule", "look_at_rule", defArgs s_look_at_rule, defBody s_look_at_rule, defScope s_look_at_rule, [], []⟩
def d_weighed : He.DefD := ⟨("weighed", none), "weighed", "weighed", defArgs s_weighed, defBody s_weighed, defScope s_weighed, [], []⟩
def d__law_cell_at : He.DefD := ⟨("_law_cell_at", none), "_law_cell_at", "_law_cell_at", defArgs s__law_cell_at, defBody s__law_cell_at, defScope s__law_cell_at, [], []⟩
def d__law_number : He.DefD := ⟨("_law_number", none), "_law_number", "_law_number", defArgs s__law_number, defBody s__law_number, defScope s__law_number, [], []⟩
def d__law_cut : He.DefD := ⟨("_law_cut", none), "_law_cut", "_law_cut", defArgs s__law_cut, defBody s__law_cut, defScope s__law_cut, [], []⟩
def d__law_value : He.DefD := ⟨("_law_value", none), "_law_value", "_law_value", defArgs s__law_value, defBody s__law_value, defScope s__law_value, [], []⟩
def d__law_whole : He.DefD := ⟨("_law_whole", none), "_law_whole", "_law_whole", defArgs s__law_whole, defBody s__law_whole, defScope s__law_whole, [], []⟩
def d__law_divisor : He.DefD := ⟨("_law_divisor", none), "_law_divisor", "_law_divisor", defArgs s__law_divisor, defBody s__law_divisor, defScope s__law_divisor, [], []⟩
def d__law_need : He.DefD := ⟨("_law_need", none), "_law_need", "_law_need", defArgs s__law_need, defBody s__law_need, defScope s__law_need, [], []⟩
def d_ratio : He.DefD := ⟨("ratio", none), "ratio", "ratio", defArgs s_ratio, defBody s_ratio, defScope s_ratio, [], []⟩
def d_reach : He.DefD := ⟨("reach", none), "reach", "reach", defArgs s_reach, defBody s_reach, defScope s_reach, [], []⟩
def d_order_of : He.DefD := ⟨("order_of", none), "order_of", "order_of", defArgs s_order_of, defBody s_order_of, defScope s_order_of, [], []⟩
def d__law_product : He.DefD := ⟨("_law_product", none), "_law_product", "_law_product", defArgs s__law_product, defBody s__law_product, defScope s__law_product, [], []⟩
def d__law_lowest : He.DefD := ⟨("_law_lowest", none), "_law_lowest", "_law_lowest", defArgs s__law_lowest, defBody s__law_lowest, defScope s__law_lowest, [], []⟩
def d__law_weighed : He.DefD := ⟨("_law_weighed", none), "_law_weighed", "_law_weighed", defArgs s__law_weighed, defBody s__law_weighed, defScope s__law_weighed, [], []⟩
def d__law_is_fraction : He.DefD := ⟨("_law_is_fraction", none), "_law_is_fraction", "_law_is_fraction", defArgs s__law_is_fraction, defBody s__law_is_fraction, defScope s__law_is_fraction, [], []⟩
def d__law_last : He.DefD := ⟨("_law_last", none), "_law_last", "_law_last", defArgs s__law_last, defBody s__law_last, defScope s__law_last, [], []⟩
def d__law_roots : He.DefD := ⟨("_law_roots", none), "_law_roots", "_law_roots", defArgs s__law_roots, defBody s__law_roots, defScope s__law_roots, [], []⟩
def d_need_of : He.DefD := ⟨("need_of", none), "need_of", "need_of", defArgs s_need_of, defBody s_need_of, defScope s_need_of, [], []⟩
def d_keeps : He.DefD := ⟨("keeps", none), "keeps", "keeps", defArgs s_keeps, defBody s_keeps, defScope s_keeps, [], []⟩
def d_next_one : He.DefD := ⟨("next_one", none), "next_one", "next_one", defArgs s_next_one, defBody s_next_one, defScope s_next_one, [], []⟩
def d__law_fraction : He.DefD := ⟨("_law_fraction", none), "_law_fraction", "_law_fraction", defArgs s__law_fraction, defBody s__law_fraction, defScope s__law_fraction, [], []⟩
def d__law_parts : He.DefD := ⟨("_law_parts", none), "_law_parts", "_law_parts", defArgs s__law_parts, defBody s__law_parts, defScope s__law_parts, [], []⟩
def d__law_rule : He.DefD := ⟨("_law_rule", none), "_law_rule", "_law_rule", defArgs s__law_rule, defBody s__law_rule, defScope s__law_rule, [], []⟩
def d__law_keeps : He.DefD := ⟨("_law_keeps", none), "_law_keeps", "_law_keeps", defArgs s__law_keeps, defBody s__law_keeps, defScope s__law_keeps, [], []⟩
def d_look_at_first : He.DefD := ⟨("look_at_first", none), "look_at_first", "look_at_first", defArgs s_look_at_first, defBody s_look_at_first, defScope s_look_at_first, [], []⟩
def d__law_values : He.DefD := ⟨("_law_values", none), "_law_values", "_law_values", defArgs s__law_values, defBody s__law_values, defScope s__law_values, [], []⟩
def d_carried_on : He.DefD := ⟨("carried_on", none), "carried_on", "carried_on", defArgs s_carried_on, defBody s_carried_on, defScope s_carried_on, [], []⟩
def d__law_powers : He.DefD := ⟨("_law_powers", none), "_law_powers", "_law_powers", defArgs s__law_powers, defBody s__law_powers, defScope s__law_powers, [], []⟩
def d_law : He.DefD := ⟨("law", none), "law", "law", defArgs s_law, defBody s_law, defScope s_law, [], []⟩
def fn : List He.DefD := ([d_poly_value, d_shifted, d_divisor, d_one_sign, d_look_at_rule, d_weighed, d__law_cell_at, d__law_number, d__law_cut, d__law_value, d__law_whole, d__law_divisor, d__law_need, d_ratio, d_reach, d_order_of, d__law_product, d__law_lowest, d__law_weighed, d__law_is_fraction, d__law_last, d__law_roots, d_need_of, d_keeps, d_next_one] : List He.DefD) ++ ([d__law_fraction, d__law_parts, d__law_rule, d__law_keeps, d_look_at_first, d__law_values, d_carried_on, d__law_powers, d_law] : List He.DefD)
def fa : List He.Fa := ([.glo "poly_value", .glo "shifted", .glo "divisor", .glo "one_sign", .glo "look_at_rule", .glo "weighed", .glo "_law_cell_at", .glo "_law_number", .glo "_law_cut", .glo "_law_value", .glo "_law_whole", .glo "_law_divisor", .glo "_law_need", .glo "ratio", .glo "reach", .glo "order_of", .glo "_law_product", .glo "_law_lowest", .glo "_law_weighed", .glo "_law_is_fraction", .glo "_law_last", .glo "_law_roots", .glo "need_of", .glo "keeps", .glo "next_one"] : List He.Fa) ++ ([.glo "_law_fraction", .glo "_law_parts", .glo "_law_rule", .glo "_law_keeps", .glo "look_at_first", .glo "_law_values", .glo "carried_on", .glo "_law_powers", .glo "law", .free "abs", .free "bool", .free "int", .free "isinstance", .free "len", .free "list", .free "max", .free "min", .free "range", .free "reversed", .free "tuple", .free "zip", .int "LIMIT" 60, .glo "NoNumber", .glo "NoPlace", .glo "NoRule"] : List He.Fa) ++ ([.glo "TooFew", .glo "TooGreat", .exc "NoNumber", .exc "NoPlace", .exc "NoRule", .exc "TooFew", .exc "TooGreat"] : List He.Fa)
def exL (K : PySem.W.Frag) : List Bool := []
def ex (K : PySem.W.Frag) : Bool := (exL K).all id
theorem ex_at {K : PySem.W.Frag} (h : ex K = true) (i : Nat) {b : Bool} (e : (exL K)[i]? = some b) : b = true := List.all_eq_true.mp h b (List.mem_of_getElem? e)
abbrev R : PySem.W.OpenRow := PySem.W.OpenLaw.row PySem.Challenge.rw_sumcraft_k13_values_carried_on
abbrev hk : PySem.W.Hook := DL.hookY 4 fa fn ex
def ob (s : PySem.W.SharedT) : DL.AlY := DL.obsY 4 fa fn ex (HandSHeadRun.getT s)
theorem ob_eq (s : PySem.W.SharedT) : ob s = hk.obs s.abs := DL.obsY_eq (HandSHeadRun.getT_eq s)
def loose : List Str := (["poly_value", "shifted", "divisor", "ratio", "one_sign", "reach", "look_at_rule", "order_of", "need_of", "weighed", "keeps", "look_at_first", "next_one", "carried_on", "_law_cell_at", "_law_number", "_law_cut", "_law_product", "_law_value", "_law_whole", "_law_divisor", "_law_lowest", "_law_fraction", "_law_weighed", "_law_is_fraction"] : List Str) ++ (["_law_last", "_law_parts", "_law_roots", "_law_rule", "_law_need", "_law_values", "_law_keeps", "_law_powers", "SumError", "NoNumber", "NoRule", "TooFew", "NotKept", "TooGreat", "NoPlace", "LIMIT"] : List Str)
theorem run (w : World) : HandSHeadRun.RunEq R (PySem.W.view R.prog [47]) hk ob 4000 loose w := by
  intro os
  kernel_rfl
theorem facts {P : Program} {w : World} {K : PySem.W.Frag} {h : Heap} {mg : Str → Option Value} {f : Addr} (X : K.In h) (G : h.Ns mainGlobals mg) (hfa : mg ("law" : Str) = some (.ref f)) (c : He.SaysD fa fn K) (cx : ex K = true) :
    ∃ fd : FuncData, (∀ (s : Shared) (v : Value), BindsTo s fd ⟨[v], []⟩ [("_law_script", v)]) ∧ ∀ base : Heap, K.In base → base.Ns mainGlobals mg → FnOk P w K mg base CX0 7 f fd ["_law_script"] (DL.spLaw K) := by
  obtain ⟨fd_poly_value, F_poly_value⟩ := c.def_ 0 (d := d_poly_value) rfl
  obtain ⟨fd_shifted, F_shifted⟩ := c.def_ 1 (d := d_shifted) rfl
  obtain ⟨fd_divisor, F_divisor⟩ := c.def_ 2 (d := d_divisor) rfl
  obtain ⟨fd_one_sign, F_one_sign⟩ := c.def_ 3 (d := d_one_sign) rfl
  obtain ⟨fd_look_at_rule, F_look_at_rule⟩ := c.def_ 4 (d := d_look_at_rule) rfl
  obtain ⟨fd_weighed, F_weighed⟩ := c.def_ 5 (d := d_weighed) rfl
  obtain ⟨fd__law_cell_at, F__law_cell_at⟩ := c.def_ 6 (d := d__law_cell_at) rfl
  obtain ⟨fd__law_number, F__law_number⟩ := c.def_ 7 (d := d__law_number) rfl
  obtain ⟨fd__law_cut, F__law_cut⟩ := c.def_ 8 (d := d__law_cut) rfl
  obtain ⟨fd__law_value, F__law_value⟩ := c.def_ 9 (d := d__law_value) rfl
  obtain ⟨fd__law_whole, F__law_whole⟩ := c.def_ 10 (d := d__law_whole) rfl
  obtain ⟨fd__law_divisor, F__law_divisor⟩ := c.def_ 11 (d := d__law_divisor) rfl
  obtain ⟨fd__law_need, F__law_need⟩ := c.def_ 12 (d := d__law_need) rfl
  obtain ⟨fd_ratio, F_ratio⟩ := c.def_ 13 (d := d_ratio) rfl
  obtain ⟨fd_reach, F_reach⟩ := c.def_ 14 (d := d_reach) rfl
  obtain ⟨fd_order_of, F_order_of⟩ := c.def_ 15 (d := d_order_of) rfl
  obtain ⟨fd__law_product, F__law_product⟩ := c.def_ 16 (d := d__law_product) rfl
  obtain ⟨fd__law_lowest, F__law_lowest⟩ := c.def_ 17 (d := d__law_lowest) rfl
  obtain ⟨fd__law_weighed, F__law_weighed⟩ := c.def_ 18 (d := d__law_weighed) rfl
  obtain ⟨fd__law_is_fraction, F__law_is_fraction⟩ := c.def_ 19 (d := d__law_is_fraction) rfl
  obtain ⟨fd__law_last, F__law_last⟩ := c.def_ 20 (d := d__law_last) rfl
  obtain ⟨fd__law_roots, F__law_roots⟩ := c.def_ 21 (d := d__law_roots) rfl
  obtain ⟨fd_need_of, F_need_of⟩ := c.def_ 22 (d := d_need_of) rfl
  obtain ⟨fd_keeps, F_keeps⟩ := c.def_ 23 (d := d_keeps) rfl
  obtain ⟨fd_next_one, F_next_one⟩ := c.def_ 24 (d := d_next_one) rfl
  obtain ⟨fd__law_fraction, F__law_fraction⟩ := c.def_ 25 (d := d__law_fraction) rfl
  obtain ⟨fd__law_parts, F__law_parts⟩ := c.def_ 26 (d := d__law_parts) rfl
  obtain ⟨fd__law_rule, F__law_rule⟩ := c.def_ 27 (d := d__law_rule) rfl
  obtain ⟨fd__law_keeps, F__law_keeps⟩ := c.def_ 28 (d := d__law_keeps) rfl
  obtain ⟨fd_look_at_first, F_look_at_first⟩ := c.def_ 29 (d := d_look_at_first) rfl
  obtain ⟨fd__law_values, F__law_values⟩ := c.def_ 30 (d := d__law_values) rfl
  obtain ⟨fd_carried_on, F_carried_on⟩ := c.def_ 31 (d := d_carried_on) rfl
  obtain ⟨fd__law_powers, F__law_powers⟩ := c.def_ 32 (d := d__law_powers) rfl
  obtain ⟨fd_law, F_law⟩ := c.def_ 33 (d := d_law) rfl
  have h_abs : mg "abs" = none := He.free_ok X G (c.fact 34 (f := .free "abs") rfl)
  have h_bool : mg "bool" = none := He.free_ok X G (c.fact 35 (f := .free "bool") rfl)
  have h_int : mg "int" = none := He.free_ok X G (c.fact 36 (f := .free "int") rfl)
  have h_isinstance : mg "isinstance" = none := He.free_ok X G (c.fact 37 (f := .free "isinstance") rfl)
  have h_len : mg "len" = none := He.free_ok X G (c.fact 38 (f := .free "len") rfl)
  have h_list : mg "list" = none := He.free_ok X G (c.fact 39 (f := .free "list") rfl)
  have h_max : mg "max" = none := He.free_ok X G (c.fact 40 (f := .free "max") rfl)
  have h_min : mg "min" = none := He.free_ok X G (c.fact 41 (f := .free "min") rfl)
  have h_range : mg "range" = none := He.free_ok X G (c.fact 42 (f := .free "range") rfl)
  have h_reversed : mg "reversed" = none := He.free_ok X G (c.fact 43 (f := .free "reversed") rfl)
  have h_tuple : mg "tuple" = none := He.free_ok X G (c.fact 44 (f := .free "tuple") rfl)
  have h_zip : mg "zip" = none := He.free_ok X G (c.fact 45 (f := .free "zip") rfl)
  have c_LIMIT : ∃ t, mg "LIMIT" = some (.int 60 t) := He.int_ok X G (c.fact 46 (f := .int "LIMIT" 60) rfl)
  have g_NoNumber : mg "NoNumber" = some (.ref (He.ga K "NoNumber")) := He.glo_ok X G (c.fact 47 (f := .glo "NoNumber") rfl)
  have g_NoPlace : mg "NoPlace" = some (.ref (He.ga K "NoPlace")) := He.glo_ok X G (c.fact 48 (f := .glo "NoPlace") rfl)
  have g_NoRule : mg "NoRule" = some (.ref (He.ga K "NoRule")) := He.glo_ok X G (c.fact 49 (f := .glo "NoRule") rfl)
  have g_TooFew : mg "TooFew" = some (.ref (He.ga K "TooFew")) := He.glo_ok X G (c.fact 50 (f := .glo "TooFew") rfl)
  have g_TooGreat : mg "TooGreat" = some (.ref (He.ga K "TooGreat")) := He.glo_ok X G (c.fact 51 (f := .glo "TooGreat") rfl)
  have rx_NoNumber : DL.Rx K mg "NoNumber" := DL.Rx.of X G (c.fact 47 (f := .glo "NoNumber") rfl) (c.fact 52 (f := .exc "NoNumber") rfl)
  have rx_NoPlace : DL.Rx K mg "NoPlace" := DL.Rx.of X G (c.fact 48 (f := .glo "NoPlace") rfl) (c.fact 53 (f := .exc "NoPlace") rfl)
  have rx_NoRule : DL.Rx K mg "NoRule" := DL.Rx.of X G (c.fact 49 (f := .glo "NoRule") rfl) (c.fact 54 (f := .exc "NoRule") rfl)
  have rx_TooFew : DL.Rx K mg "TooFew" := DL.Rx.of X G (c.fact 50 (f := .glo "TooFew") rfl) (c.fact 55 (f := .exc "TooFew") rfl)
  have rx_TooGreat : DL.Rx K mg "TooGreat" := DL.Rx.of X G (c.fact 51 (f := .glo "TooGreat") rfl) (c.fact 56 (f := .exc "TooGreat") rfl)
  have D_poly_value : ∀ base : Heap, Def P w K mg base "poly_value" 1 2 M_poly_value := fun base => ok_poly_value F_poly_value (He.glo_ok X G (c.fact 0 (f := .glo "poly_value") rfl)) h_reversed
  have D_shifted : ∀ base : Heap, Def P w K mg base "shifted" 1 2 M_shifted := fun base => ok_shifted F_shifted (He.glo_ok X G (c.fact 1 (f := .glo "shifted") rfl)) h_len h_list h_range
  have D_divisor : ∀ base : Heap, Def P w K mg base "divisor" 1 2 M_divisor := fun base => ok_divisor F_divisor (He.glo_ok X G (c.fact 2 (f := .glo "divisor") rfl)) h_abs
  have D_one_sign : ∀ base : Heap, Def P w K mg base "one_sign" 1 1 M_one_sign := fun base => ok_one_sign F_one_sign (He.glo_ok X G (c.fact 3 (f := .glo "one_sign") rfl)) h_max h_min
  have D_look_at_rule : ∀ base : Heap, Def P w K mg base "look_at_rule" 1 1 M_look_at_rule := fun base => ok_look_at_rule F_look_at_rule (He.glo_ok X G (c.fact 4 (f := .glo "look_at_rule") rfl)) rx_NoRule
  have D_weighed : ∀ base : Heap, Def P w K mg base "weighed" 1 2 M_weighed := fun base => ok_weighed F_weighed (He.glo_ok X G (c.fact 5 (f := .glo "weighed") rfl)) h_zip
  have D__law_cell_at : ∀ base : Heap, Def P w K mg base "_law_cell_at" 1 2 M__law_cell_at := fun base => ok__law_cell_at F__law_cell_at (He.glo_ok X G (c.fact 6 (f := .glo "_law_cell_at") rfl)) h_len
  have D__law_number : ∀ base : Heap, Def P w K mg base "_law_number" 1 2 M__law_number := fun base => ok__law_number F__law_number (He.glo_ok X G (c.fact 7 (f := .glo "_law_number") rfl)) 
  have D__law_cut : ∀ base : Heap, Def P w K mg base "_law_cut" 1 1 M__law_cut := fun base => ok__law_cut F__law_cut (He.glo_ok X G (c.fact 8 (f := .glo "_law_cut") rfl)) h_len h_list
  have D__law_value : ∀ base : Heap, Def P w K mg base "_law_value" 1 2 M__law_value := fun base => ok__law_value F__law_value (He.glo_ok X G (c.fact 9 (f := .glo "_law_value") rfl)) h_reversed
  have D__law_whole : ∀ base : Heap, Def P w K mg base "_law_whole" 1 1 M__law_whole := fun base => ok__law_whole F__law_whole (He.glo_ok X G (c.fact 10 (f := .glo "_law_whole") rfl)) h_bool h_int h_isinstance
  have D__law_divisor : ∀ base : Heap, Def P w K mg base "_law_divisor" 1 2 M__law_divisor := fun base => ok__law_divisor F__law_divisor (He.glo_ok X G (c.fact 11 (f := .glo "_law_divisor") rfl)) h_abs
  have D__law_need : ∀ base : Heap, Def P w K mg base "_law_need" 1 2 M__law_need := fun base => ok__law_need F__law_need (He.glo_ok X G (c.fact 12 (f := .glo "_law_need") rfl)) h_len h_max
  have D_ratio : ∀ base : Heap, Def P w K mg base "ratio" 2 2 M_ratio := fun base => ok_ratio F_ratio (He.glo_ok X G (c.fact 13 (f := .glo "ratio") rfl)) rx_NoNumber (D_divisor base)
  have D_reach : ∀ base : Heap, Def P w K mg base "reach" 2 1 M_reach := fun base => ok_reach F_reach (He.glo_ok X G (c.fact 14 (f := .glo "reach") rfl)) h_list h_range rx_NoNumber rx_TooGreat c_LIMIT (D_one_sign base) (D_shifted base)
  have D_order_of : ∀ base : Heap, Def P w K mg base "order_of" 2 1 M_order_of := fun base => ok_order_of F_order_of (He.glo_ok X G (c.fact 15 (f := .glo "order_of") rfl)) h_len (D_look_at_rule base)
  have D__law_product : ∀ base : Heap, Def P w K mg base "_law_product" 2 2 M__law_product := fun base => ok__law_product F__law_product (He.glo_ok X G (c.fact 16 (f := .glo "_law_product") rfl)) h_len h_range (D__law_cut base)
  have D__law_lowest : ∀ base : Heap, Def P w K mg base "_law_lowest" 2 2 M__law_lowest := fun base => ok__law_lowest F__law_lowest (He.glo_ok X G (c.fact 17 (f := .glo "_law_lowest") rfl)) (D__law_divisor base)
  have D__law_weighed : ∀ base : Heap, Def P w K mg base "_law_weighed" 2 3 M__law_weighed := fun base => ok__law_weighed F__law_weighed (He.glo_ok X G (c.fact 18 (f := .glo "_law_weighed") rfl)) h_len h_range (D__law_value base)
  have D__law_is_fraction : ∀ base : Heap, Def P w K mg base "_law_is_fraction" 2 1 M__law_is_fraction := fun base => ok__law_is_fraction F__law_is_fraction (He.glo_ok X G (c.fact 19 (f := .glo "_law_is_fraction") rfl)) h_isinstance h_len h_tuple (D__law_whole base) (D__law_divisor base)
  have D__law_last : ∀ base : Heap, Def P w K mg base "_law_last" 2 1 M__law_last := fun base => ok__law_last F__law_last (He.glo_ok X G (c.fact 20 (f := .glo "_law_last") rfl)) (D__law_cut base)
  have D__law_roots : ∀ base : Heap, Def P w K mg base "_law_roots" 2 1 M__law_roots := fun base => ok__law_roots F__law_roots (He.glo_ok X G (c.fact 21 (f := .glo "_law_roots") rfl)) (D__law_cell_at base)
  have D_need_of : ∀ base : Heap, Def P w K mg base "need_of" 3 1 M_need_of := fun base => ok_need_of F_need_of (He.glo_ok X G (c.fact 22 (f := .glo "need_of") rfl)) (D_order_of base) (D_reach base)
  have D_keeps : ∀ base : Heap, Def P w K mg base "keeps" 3 3 M_keeps := fun base => ok_keeps F_keeps (He.glo_ok X G (c.fact 23 (f := .glo "keeps") rfl)) h_len rx_NoPlace (D_order_of base) (D_weighed base) (D_poly_value base)
  have D_next_one : ∀ base : Heap, Def P w K mg base "next_one" 3 2 M_next_one := fun base => ok_next_one F_next_one (He.glo_ok X G (c.fact 24 (f := .glo "next_one") rfl)) h_len (D_weighed base) (D_ratio base) (D_order_of base) (D_poly_value base)
  have D__law_fraction : ∀ base : Heap, Def P w K mg base "_law_fraction" 3 1 M__law_fraction := fun base => ok__law_fraction F__law_fraction (He.glo_ok X G (c.fact 25 (f := .glo "_law_fraction") rfl)) (D__law_lowest base) (D__law_number base)
  have D__law_parts : ∀ base : Heap, Def P w K mg base "_law_parts" 3 1 M__law_parts := fun base => ok__law_parts F__law_parts (He.glo_ok X G (c.fact 26 (f := .glo "_law_parts") rfl)) h_range (D__law_cell_at base) (D__law_number base) (D__law_cut base) (D__law_last base)
  have D__law_rule : ∀ base : Heap, Def P w K mg base "_law_rule" 3 2 M__law_rule := fun base => ok__law_rule F__law_rule (He.glo_ok X G (c.fact 27 (f := .glo "_law_rule") rfl)) (D__law_product base)
  have D__law_keeps : ∀ base : Heap, Def P w K mg base "_law_keeps" 3 2 M__law_keeps := fun base => ok__law_keeps F__law_keeps (He.glo_ok X G (c.fact 28 (f := .glo "_law_keeps") rfl)) h_len h_range (D__law_weighed base)
  have D_look_at_first : ∀ base : Heap, Def P w K mg base "look_at_first" 4 2 M_look_at_first := fun base => ok_look_at_first F_look_at_first (He.glo_ok X G (c.fact 29 (f := .glo "look_at_first") rfl)) h_len h_range rx_TooFew (D_need_of base) (D_order_of base) (D_keeps base)
  have D__law_values : ∀ base : Heap, Def P w K mg base "_law_values" 4 4 M__law_values := fun base => ok__law_values F__law_values (He.glo_ok X G (c.fact 30 (f := .glo "_law_values") rfl)) h_len h_range (D__law_weighed base) (D__law_fraction base) (D__law_lowest base) (D__law_value base)
  have D_carried_on : ∀ base : Heap, Def P w K mg base "carried_on" 5 3 M_carried_on := fun base => ok_carried_on F_carried_on (He.glo_ok X G (c.fact 31 (f := .glo "carried_on") rfl)) h_len h_list (D_look_at_first base) (D_next_one base)
  have D__law_powers : ∀ base : Heap, Def P w K mg base "_law_powers" 6 1 M__law_powers := fun base => ok__law_powers F__law_powers (He.glo_ok X G (c.fact 32 (f := .glo "_law_powers") rfl)) h_range (D_carried_on base) (D__law_cut base)
  have e := hfa.symm.trans (He.glo_ok X G (c.fact 33 (f := .glo "law") rfl))
  cases e
  have b := FunD.bindsA (ps := ["_law_script"]) F_law fun _ _ _ _ _ _ us hl => match us, hl with | [_], _ => rfl
  exact ⟨fd_law, fun s v => b s [v] rfl, fun base _ _ => ok_law F_law h_isinstance h_len h_list (D__law_parts base) (D__law_roots base) (D__law_rule base) (D__law_cell_at base) (D__law_values base) (D_carried_on base) (D__law_powers base) (D__law_need base) (D__law_is_fraction base) (D__law_keeps base)⟩
end Row
end
open PySem PySem.W PySem.Calls PyProof.Rows
set_option maxRecDepth 100000 in
set_option maxHeartbeats 0 in
theorem PySem.Challenge.cw_sumcraft_k13_values_carried_on_holds : PySem.Challenge.rw_sumcraft_k13_values_carried_on.Holds := by
  w_on; o_law
  refine HandSHeadRun.head_any (r := OpenLaw.row PySem.Challenge.rw_sumcraft_k13_values_carried_on) (q := view (OpenLaw.row PySem.Challenge.rw_sumcraft_k13_values_carried_on).prog [47]) (H := Row.hk) (ob := Row.ob) (M := 4000) (loose := Row.loose) (d := HandSHeadRun.topDef (OpenLaw.row PySem.Challenge.rw_sumcraft_k13_values_carried_on).prog 47) (kwd := []) Row.ob_eq
    (by kernel_rfl) (fun s => by kernel_rfl) Row.run (by kernel_rfl) (by kernel_rfl) (by kernel_rfl) (by rfl) (by first | assumption | decide +kernel) (by decide +kernel) ⟨rfl, rfl, rfl, rfl, rfl, by decide +kernel⟩ ?hw ?hc
  case hw => w_witness2
  case hc =>
    refine L2.walk_ofE (l := PySem.Challenge.rw_sumcraft_k13_values_carried_on) (n := 63) (k := 7) (x := "_law_script") (CX := L2.CX0) rfl (by decide) (by kernel_rfl) ⟨rfl, by decide, by decide⟩ ?F (fun _ _ _ _ z => z)
    intro w mg fa h Y G hmg0
    obtain ⟨K, KX, c, cx⟩ := Y
    have hmg : mg ("law" : PySem.Str) = some (.ref fa) := by
      have e : (HandSHeadRun.topDef (OpenLaw.row PySem.Challenge.rw_sumcraft_k13_values_carried_on).prog 47).name = ("law" : PySem.Str) := by kernel_rfl
      rw [← e]
      exact hmg0
    obtain ⟨fd, hb, hF⟩ := Row.facts (P := (PySem.Challenge.rw_sumcraft_k13_values_carried_on).prog) (w := w) KX G hmg c cx
    exact ⟨K, fd, DL.spLaw K, KX, hb, fun H a ns hl _ hS => ⟨a, ns, rfl, hS, hl, fun _ => rfl⟩, hF⟩

