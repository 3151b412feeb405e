import PyProof.Rows.All
import Wide.All
import OpenK.AllK
import Wide.FinOn
import KE.KStateDown
import Lean
import HandS.ForMost
import HandS.ForExc
import HandS.Wide
import HandS.IsInst
import HandS.Zip
import HandS.Rev
import HandS.More
import HandS.Words
import HandS.WordsExc
import HandS.Defaults
import HandS.ExcIs
import HandS.ExcField
import HandS.Style
import HandS.Head0
import HandS.Head1
import HandS.Head2
import HandS.HeadEnd
import HandS.HeadHook1
import HandS.HeadHook2
import PyProof.Conv_int_bool
import KE.KExcIs
import HandS.ExcInit
import HandS.DictTup
import HandS.Nested
import HandS.NestedK
import HandS.WideBits
import HandS.SortKw
import HandS.Deep
import KE.GoesComp
import HandS.Comp
import HandS.ExcOwn
import HandS.NoneIn
import HandS.TupLen
import KE.KDictCopyH
import HandS.Conv
import HandS.Dict
import HandS.More
import KE.KDictDisplayH
import KE.KDictOf
import KE.KDictWalk
import HandS.Finally
import HandS.DictEq
import KE.KEqNest
import HandS.EndTab
import HandS.EndTab
import PySem.Challenge.RW_sumcraft_k51_pairs_added_and_multiplied
set_option Elab.async false
set_option linter.all false
set_option maxRecDepth 100000
set_option maxHeartbeats 4000000
namespace DL
open PySem L2
structure Ec where
  c : Str
  fs : List (Str × Int)
inductive D where
  | non | bl (b : Bool) | int (i : Int) | str (x : Str) | ex (e : Ec)
  | scr (ns : List Int)
  | lst (xs : List D) | tup (xs : List D)
  | obj (c : Str) (ns : List Str) (xs : List D)
  | row (rule : List (List Int)) (first : List (Int × Int))
  | dct (ks : List (List Key)) (xs : List D) | dck (ks : List Key) (xs : List D)
def ExV (cls : Value) (d : Option Addr) (a : Addr) : HO := .ext fun h => ∃ (oe : Obj) (vs : Array Value), h.get? a = some oe ∧ Zc cls d oe ∧ oe.data = .fields vs
def EcR (K : PySem.W.Frag) (e : Ec) (cls : Value) (d : Option Addr) (Hf : Hp) : Prop :=
  ∃ C, cls = .ref C ∧ PySem.W.nsIn K mainGlobals e.c = some (some (.ref C)) ∧
    (match d with | none => e.fs = [] | some a => e.fs ≠ [] ∧ Hf a = some (.xd (e.fs.map fun p => (p.1, V.int p.2))))
def ExAt (K : PySem.W.Frag) (H : Hp) (e : Ec) (a : Addr) : Prop := ∃ cls d, H a = some (ExV cls d a) ∧ EcR K e cls d H
def PolyAt (H : Hp) (p : List Int) (v : V) : Prop := ∃ a, v = .ref a ∧ H a = some (.lst (p.map V.int))
def FrAt (H : Hp) (p : Int × Int) (v : V) : Prop := ∃ a, v = .ref a ∧ H a = some (.tup [.int p.1, .int p.2])
def PolysAt (H : Hp) (ps : List (List Int)) (v : V) : Prop := ∃ a vs, v = .ref a ∧ H a = some (.lst vs) ∧ Paired (PolyAt H) ps vs
def FrsAt (H : Hp) (ps : List (Int × Int)) (v : V) : Prop := ∃ a vs, v = .ref a ∧ H a = some (.lst vs) ∧ Paired (FrAt H) ps vs
def RowAt (K : PySem.W.Frag) (H : Hp) (rule : List (List Int)) (first : List (Int × Int)) (a : Addr) : Prop :=
  ∃ (dx : Addr) (r f : V) (k : Addr), H a = some (.ins (He.ga K "Row") dx [("rule", r), ("first", f), ("known", .ref k)]) ∧ H dx = some (.own a) ∧ PolysAt H rule r ∧ FrsAt H first f
mutual
def Rep (K : PySem.W.Frag) (H : Hp) : D → V → Prop
  | .non, v => v = .non
  | .bl b, v => v = .bl b
  | .int i, v => v = .int i
  | .str x, v => v = .str x
  | .ex e, v => ∃ a, v = .ref a ∧ ExAt K H e a
  | .scr ns, v => ∃ a, v = .ref a ∧ SqL K H a (ns.map V.int)
  | .lst ds, v => ∃ a vs, v = .ref a ∧ H a = some (.lst vs) ∧ Reps K H ds vs
  | .tup ds, v => ∃ a vs, v = .ref a ∧ H a = some (.tup vs) ∧ Reps K H ds vs
  | .obj c ns ds, v => ∃ a dx vs, v = .ref a ∧ H a = some (.ins (He.ga K c) dx (ns.zip vs)) ∧ H dx = some (.own a) ∧ ns.length = ds.length ∧ Reps K H ds vs
  | .row rule first, v => ∃ a, v = .ref a ∧ RowAt K H rule first a
  | .dct ks ds, v => ∃ a vs, v = .ref a ∧ Rd H a (.dT (ks.zip vs)) ∧ ks.length = ds.length ∧ Reps K H ds vs
  | .dck ks ds, v => ∃ a vs, v = .ref a ∧ H a = some (.dK (ks.zip vs)) ∧ ks.length = ds.length ∧ Reps K H ds vs
def Reps (K : PySem.W.Frag) (H : Hp) : List D → List V → Prop
  | [], vs => vs = []
  | d :: ds, vs => ∃ v r, vs = v :: r ∧ Rep K H d v ∧ Reps K H ds r
end
def rowNs : List Str := ["rule", "first", "known"]
inductive O where | fz (d : D) | ls (os : List O) | tp (os : List O)
  | ob (c : Str) (ns : List Str) (os : List O) | dt (ks : List (List Key)) (ds : List D) | dk (ks : List Key) (ds : List D)
  | gh (o : O) (a : Addr) (m : O)
mutual
def RepO (K : PySem.W.Frag) (Hf H : Hp) : O → V → List Addr → Prop
  | .fz d, v, L => Rep K Hf d v ∧ L = []
  | .ls os, v, L => ∃ a vs M, v = .ref a ∧ H a = some (.lst vs) ∧ RepOs K Hf H os vs M ∧ L = a :: M
  | .tp os, v, L => ∃ a vs M, v = .ref a ∧ H a = some (.tup vs) ∧ RepOs K Hf H os vs M ∧ L = a :: M
  | .ob c ns os, v, L => ∃ a dx vs M, v = .ref a ∧ H a = some (.ins (He.ga K c) dx (ns.zip vs)) ∧ H dx = some (.own a) ∧ ns.length = os.length ∧ RepOs K Hf H os vs M ∧ ns ≠ rowNs ∧ L = a :: dx :: M
  | .dt ks ds, v, L => ∃ a vs, v = .ref a ∧ H a = some (.dT (ks.zip vs)) ∧ ks.length = ds.length ∧ Reps K Hf ds vs ∧ L = [a]
  | .dk ks ds, v, L => ∃ a vs, v = .ref a ∧ H a = some (.dK (ks.zip vs)) ∧ ks.length = ds.length ∧ Reps K Hf ds vs ∧ L = [a]
  | .gh o a m, v, L => ∃ L1 L2, RepO K Hf H o v L1 ∧ RepO K Hf H m (.ref a) L2 ∧ L = L1 ++ L2
def RepOs (K : PySem.W.Frag) (Hf H : Hp) : List O → List V → List Addr → Prop
  | [], vs, L => vs = [] ∧ L = []
  | o :: os, vs, L => ∃ v r L1 L2, vs = v :: r ∧ L = L1 ++ L2 ∧ RepO K Hf H o v L1 ∧ RepOs K Hf H os r L2
end
mutual
def RepV (K : PySem.W.Frag) (Hf H : Hp) : O → V → Prop
  | .fz d, v => Rep K Hf d v
  | .ls os, v => ∃ a vs, v = .ref a ∧ H a = some (.lst vs) ∧ RepVs K Hf H os vs
  | .tp os, v => ∃ a vs, v = .ref a ∧ H a = some (.tup vs) ∧ RepVs K Hf H os vs
  | .ob c ns os, v => ∃ a dx vs, v = .ref a ∧ H a = some (.ins (He.ga K c) dx (ns.zip vs)) ∧ H dx = some (.own a) ∧ ns.length = os.length ∧ RepVs K Hf H os vs ∧ ns ≠ rowNs
  | .dt ks ds, v => ∃ a vs, v = .ref a ∧ Rd H a (.dT (ks.zip vs)) ∧ ks.length = ds.length ∧ Reps K Hf ds vs
  | .dk ks ds, v => ∃ a vs, v = .ref a ∧ H a = some (.dK (ks.zip vs)) ∧ ks.length = ds.length ∧ Reps K Hf ds vs
  | .gh o _ _, v => RepV K Hf H o v
def RepVs (K : PySem.W.Frag) (Hf H : Hp) : List O → List V → Prop
  | [], vs => vs = []
  | o :: os, vs => ∃ v r, vs = v :: r ∧ RepV K Hf H o v ∧ RepVs K Hf H os r
end
mutual
def er : O → D
  | .fz d => d
  | .ls os => .lst (ers os)
  | .tp os => .tup (ers os)
  | .ob c ns os => .obj c ns (ers os)
  | .dt ks ds => .dct ks ds
  | .dk ks ds => .dck ks ds
  | .gh o _ _ => er o
def ers : List O → List D
  | [] => []
  | o :: os => er o :: ers os
end
theorem ers_eq : ∀ os : List O, ers os = os.map er
  | [] => rfl
  | o :: os => by show er o :: ers os = _; rw [ers_eq os]; rfl
def Kn (k : Addr) (vs : List V) : HO := .ext fun h => vs.length ≤ sizeLine ∧ ∃ (its : List Value) (n : Nat), Vals vs its ∧ h.get? k = some { cls := .type "list", data := .seq its.toArray n }
inductive Hk where | e (φ : Heap → Prop) | t (ps : Array Value)
def Hk.o : Hk → HO
  | .e φ => .ext φ
  | .t ps => .tbl ps
def isPl : HO → Bool
  | .ext _ => false
  | .tbl _ => false
  | _ => true
theorem Hk.ne {o : HO} (h : isPl o = true) (φ : Hk) : o ≠ φ.o := fun z => by subst z; cases φ <;> cases h
def isKn (o : HO) : Prop := (∃ k vs, o = Kn k vs) ∨ ∃ ps, o = .tbl ps
def Sm (H H' : Hp) : Prop := ∀ a o, H a = some o → H' a = some o ∨ (isKn o ∧ ∃ o', H' a = some o' ∧ isKn o')
theorem isKn_ext {o : HO} (h : isKn o) : ∃ φ : Hk, o = φ.o := h.elim (fun ⟨_, _, e⟩ => ⟨.e _, e⟩) fun ⟨ps, e⟩ => ⟨.t ps, e⟩
section
variable {H H' H1 : Hp} {a : Addr}
theorem Same.sm (e : Same H H') : Sm H H' := fun a o h => .inl (e a o h)
theorem Sm.refl (H : Hp) : Sm H H := fun _ _ h => .inl h
theorem Sm.trans (x : Sm H H1) (y : Sm H1 H') : Sm H H' := fun a o h => by
  rcases x a o h with h1 | ⟨k, o1, h1, k1⟩
  · exact y a o h1
  · rcases y a o1 h1 with h2 | ⟨_, o2, h2, k2⟩
    · exact .inr ⟨k, o1, h2, k1⟩
    · exact .inr ⟨k, o2, h2, k2⟩
theorem Sm.free (e : Sm H H') (h : H' a = none) : H a = none := by
  cases q : H a with
  | none => rfl
  | some o =>
    rcases e a o q with h1 | ⟨_, o1, h1, _⟩
    · rw [h] at h1; cases h1
    · rw [h] at h1; cases h1
theorem Sm.at {o : HO} (e : Sm H H') (h : H a = some o) (n : ∀ φ : Hk, o ≠ φ.o) : H' a = some o := by
  rcases e a o h with h1 | ⟨k, _⟩
  · exact h1
  · obtain ⟨φ, z⟩ := isKn_ext k
    exact absurd z (n φ)
theorem Sm.lst {xs : List V} (e : Sm H H') (h : H a = some (.lst xs)) : H' a = some (.lst xs) := e.at h (Hk.ne rfl)
theorem Sm.tup {xs : List V} (e : Sm H H') (h : H a = some (.tup xs)) : H' a = some (.tup xs) := e.at h (Hk.ne rfl)
theorem Sm.ins {C dx : Addr} {fs : List (Str × V)} (e : Sm H H') (h : H a = some (.ins C dx fs)) : H' a = some (.ins C dx fs) := e.at h (Hk.ne rfl)
theorem Sm.own {x : Addr} (e : Sm H H') (h : H a = some (.own x)) : H' a = some (.own x) := e.at h (Hk.ne rfl)
theorem Sm.dT {kvs : List (List Key × V)} (e : Sm H H') (h : H a = some (.dT kvs)) : H' a = some (.dT kvs) := e.at h (Hk.ne rfl)
theorem Sm.dK {kvs : List (Key × V)} (e : Sm H H') (h : H a = some (.dK kvs)) : H' a = some (.dK kvs) := e.at h (Hk.ne rfl)
theorem Sm.ne_none (e : Sm H H') (h : H a ≠ none) : H' a ≠ none := fun z => h (e.free z)
end
section
variable {K : PySem.W.Frag} {H H' Hf Hf' : Hp}
theorem EcR.mono {e : Ec} {cls : Value} {d : Option Addr} (z : Same H H') (h : EcR K e cls d H) : EcR K e cls d H' := by
  obtain ⟨C, h1, h2, h3⟩ := h
  refine ⟨C, h1, h2, ?_⟩
  cases d with
  | none => exact h3
  | some a => exact ⟨h3.1, z _ _ h3.2⟩
theorem ExAt.mono {e : Ec} {a : Addr} (z : Same H H') (h : ExAt K H e a) : ExAt K H' e a := by
  obtain ⟨cls, d, h1, h2⟩ := h
  exact ⟨cls, d, z _ _ h1, h2.mono z⟩
theorem pairedM {α β : Type} {F G : α → β → Prop} {l₁ : List α} {l₂ : List β} (h : Paired F l₁ l₂) (f : ∀ a b, F a b → G a b) : Paired G l₁ l₂ := Paired.mapP h f
theorem PolyAt.mono (e : Same H H') {p : List Int} {v : V} (h : PolyAt H p v) : PolyAt H' p v := let ⟨a, e1, h1⟩ := h; ⟨a, e1, e _ _ h1⟩
theorem FrAt.mono (e : Same H H') {p : Int × Int} {v : V} (h : FrAt H p v) : FrAt H' p v := let ⟨a, e1, h1⟩ := h; ⟨a, e1, e _ _ h1⟩
theorem PolysAt.mono (e : Same H H') {p : List (List Int)} {v : V} (h : PolysAt H p v) : PolysAt H' p v := let ⟨a, vs, e1, h1, h2⟩ := h; ⟨a, vs, e1, e _ _ h1, pairedM h2 fun _ _ z => z.mono e⟩
theorem FrsAt.mono (e : Same H H') {p : List (Int × Int)} {v : V} (h : FrsAt H p v) : FrsAt H' p v := let ⟨a, vs, e1, h1, h2⟩ := h; ⟨a, vs, e1, e _ _ h1, pairedM h2 fun _ _ z => z.mono e⟩
theorem RowAt.mono (e : Same H H') {rule : List (List Int)} {first : List (Int × Int)} {a : Addr} (h : RowAt K H rule first a) : RowAt K H' rule first a :=
  let ⟨dx, r, f, k, h1, h2, h3, h4⟩ := h; ⟨dx, r, f, k, e _ _ h1, e _ _ h2, h3.mono e, h4.mono e⟩
def ratP (t b : Int) : Int × Int := let g : Int := (Int.gcd t b : Nat); if b < 0 then (t.fdiv (-g), b.fdiv (-g)) else (t.fdiv g, b.fdiv g)
def evP (p : List Int) (n : Int) : Int := p.foldr (fun x a => a * n + x) 0
def wgP : List Int → List (Int × Int) → Int × Int → Int × Int
  | w :: ws, f :: fs, (t, b) => wgP ws fs (t * f.2 + w * f.1 * b, b * f.2)
  | _, _, a => a
def nextP (rule : List (List Int)) (known : List (Int × Int)) : Int × Int :=
  let n : Int := (known.length : Int) - ((rule.length : Int) - 1)
  let ws := rule.map fun p => evP p n
  let a := wgP ws.dropLast (known.drop n.toNat) (0, 1)
  ratP (-a.1) (a.2 * ws.getLastD 0)
def growP (rule : List (List Int)) (first : List (Int × Int)) : Nat → List (Int × Int)
  | 0 => first
  | m + 1 => growP rule first m ++ [nextP rule (growP rule first m)]
def nestNames : List Str := []
def tabP (K : PySem.W.Frag) (x : Str) : Addr := match K.lookup (He.ga K x) with
  | some ⟨_, _, .func fd, _⟩ => (match fd.code with
    | .ref c => (match K.lookup c with
      | some ⟨_, _, .fields vs, _⟩ => (match (vs[11]? : Option Value) with
        | some (.ref P) => P
        | _ => 0)
      | _ => 0)
    | _ => 0)
  | _ => 0
def nestAt (_l _c : Nat) : Str := ""
def tK (K : PySem.W.Frag) : List Addr := nestNames.map (tabP K)
def TabsA (T : List Addr) (H : Hp) : Prop := ∀ P ∈ T, NdefX.TabN H P nestAt
structure Rows (T : List Addr) (Hf H : Hp) : Prop where
  tabs : TabsA T H
  nk : ∀ a o, Hf a = some o → ¬ isKn o
  at_ : ∀ (a C dx k : Addr) (r f : V), Hf a = some (.ins C dx [("rule", r), ("first", f), ("known", .ref k)]) → ∃ (rule : List (List Int)) (first : List (Int × Int)) (m : Nat) (vs : List V),
    PolysAt Hf rule r ∧ FrsAt Hf first f ∧ H k = some (Kn k vs) ∧ Paired (FrAt Hf) (growP rule first m) vs ∧
      ∀ (a' C' dx' : Addr) (r' f' : V), Hf a' = some (.ins C' dx' [("rule", r'), ("first", f'), ("known", .ref k)]) → a' = a
def NR (H : Hp) (L : List Addr) : Prop := ∀ a ∈ L, ∀ C dx fs, H a = some (.ins C dx fs) → fs.map (·.1) ≠ rowNs
theorem Rows.ro {T : List Addr} {Hf Hf' H H' : Hp} (r : Rows T Hf H) (f : Same Hf Hf') (nk : ∀ a o, Hf' a = some o → Hf a = none → ¬ isKn o) (nr : ∀ a C dx fs, Hf' a = some (.ins C dx fs) → Hf a = none → fs.map (·.1) ≠ rowNs)
    (e : ∀ (k : Addr) (φ : Hk), H k = some φ.o → H' k = some φ.o) : Rows T Hf' H' where
  tabs := fun p hp => let ⟨ps, a1, a2, a3⟩ := r.tabs p hp; ⟨ps, e _ (.t ps) a1, a2, fun pos cv hc => let ⟨c, e1, e2⟩ := a3 pos cv hc; ⟨c, e1, e _ (.e _) e2⟩⟩
  nk := fun a o h => by
    cases q : Hf a with
    | none => exact nk a o h q
    | some u => rw [f a u q] at h; cases h; exact r.nk a _ q
  at_ := fun a C dx k v w h => by
    have old : ∀ a' C' dx' r' f', Hf' a' = some (.ins C' dx' [("rule", r'), ("first", f'), ("known", .ref k)]) → Hf a' = some (.ins C' dx' [("rule", r'), ("first", f'), ("known", .ref k)]) := fun a' C' dx' r' f' h' => by
      cases q : Hf a' with
      | none => exact absurd rfl (nr a' _ _ _ h' q)
      | some u => rw [f a' u q] at h'; exact h'
    obtain ⟨rule, first, m, vs, h1, h2, h3, h4, h5⟩ := r.at_ a C dx k v w (old _ _ _ _ _ h)
    exact ⟨rule, first, m, vs, h1.mono f, h2.mono f, e _ (.e _) h3, pairedM h4 fun _ _ z => z.mono f, fun a' C' dx' r' f' h' => h5 a' C' dx' r' f' (old _ _ _ _ _ h')⟩
theorem Rows.up {T : List Addr} {Hf H H' : Hp} (r : Rows T Hf H) (e : ∀ (k : Addr) (φ : Hk), H k = some φ.o → H' k = some φ.o) : Rows T Hf H' := r.ro (Same.refl _) (fun a o h q => by rw [q] at h; cases h) (fun a C dx fs h q => by rw [q] at h; cases h) e
theorem Rows.new {T : List Addr} {Hf H : Hp} {p : Addr} {o : HO} (r : Rows T Hf H) (hp : H p = none) : Rows T Hf (upd H p o) := r.up fun k vs h => by rw [upd_ne (ne_of_none h hp)]; exact h
theorem Rows.set {T : List Addr} {Hf H : Hp} {p : Addr} {o o' : HO} (r : Rows T Hf H) (h : H p = some o) (n : ∀ φ : Hk, o ≠ φ.o) : Rows T Hf (upd H p o') := r.up fun k vs z => by
  rw [upd_ne (fun e => by subst e; rw [h] at z; exact n _ (Option.some.inj z))]; exact z
theorem Rows.fz {T : List Addr} {Hf H : Hp} {p : Addr} {o : HO} (r : Rows T Hf H) (hp : H p = none) (n1 : ¬ isKn o) (n2 : ∀ C dx fs, o = .ins C dx fs → fs.map (·.1) ≠ rowNs) (hf : Hf p = none) : Rows T (upd Hf p o) (upd H p o) := by
  refine r.ro (fun a u e => by rw [upd_ne (ne_of_none e hf)]; exact e) (fun a u h q => ?_) (fun a C dx fs h q => ?_) fun k vs h => by rw [upd_ne (ne_of_none h hp)]; exact h
  · by_cases ha : a = p
    · subst ha; rw [upd_same] at h; cases h; exact n1
    · rw [upd_ne ha, q] at h; cases h
  · by_cases ha : a = p
    · subst ha; rw [upd_same] at h; exact n2 C dx fs (Option.some.inj h)
    · rw [upd_ne ha, q] at h; cases h
mutual
theorem Rep.mono (e : Same H H') : ∀ (d : D) (v : V), Rep K H d v → Rep K H' d v
  | .non, _, h => h
  | .bl _, _, h => h
  | .int _, _, h => h
  | .str _, _, h => h
  | .ex _, _, h => by
    obtain ⟨a, e1, h1⟩ := h
    exact ⟨a, e1, h1.mono e⟩
  | .scr ns, _, h => by
    obtain ⟨a, e1, h1⟩ := h
    exact ⟨a, e1, e.seq h1⟩
  | .lst ds, _, h => by
    obtain ⟨a, vs, e1, h1, h2⟩ := h
    exact ⟨a, vs, e1, e _ _ h1, Reps.mono e ds vs h2⟩
  | .tup ds, _, h => by
    obtain ⟨a, vs, e1, h1, h2⟩ := h
    exact ⟨a, vs, e1, e _ _ h1, Reps.mono e ds vs h2⟩
  | .obj c ns ds, _, h => by
    obtain ⟨a, dx, vs, e1, h1, h3, h4, h2⟩ := h
    exact ⟨a, dx, vs, e1, e _ _ h1, e _ _ h3, h4, Reps.mono e ds vs h2⟩
  | .row r f, _, h => by
    obtain ⟨a, e1, h1⟩ := h
    exact ⟨a, e1, h1.mono e⟩
  | .dct ks ds, _, h => by
    obtain ⟨a, vs, e1, h1, h3, h2⟩ := h
    exact ⟨a, vs, e1, h1.imp (fun h => e _ _ h) (fun ⟨o, h⟩ => ⟨o, e _ _ h⟩), h3, Reps.mono e ds vs h2⟩
  | .dck ks ds, _, h => by
    obtain ⟨a, vs, e1, h1, h3, h2⟩ := h
    exact ⟨a, vs, e1, e _ _ h1, h3, Reps.mono e ds vs h2⟩
theorem Reps.mono (e : Same H H') : ∀ (ds : List D) (vs : List V), Reps K H ds vs → Reps K H' ds vs
  | [], _, h => h
  | d :: ds, _, h => by
    obtain ⟨v, r, e1, h1, h2⟩ := h
    exact ⟨v, r, e1, Rep.mono e d v h1, Reps.mono e ds r h2⟩
end
mutual
theorem RepO.mono (f : Same Hf Hf') : ∀ (o : O) (v : V) (L : List Addr), (∀ a ∈ L, ∀ u, H a = some u → H' a = some u) → RepO K Hf H o v L → RepO K Hf' H' o v L
  | .fz d, _, _, _, h => ⟨Rep.mono f d _ h.1, h.2⟩
  | .ls os, _, L, e, h => by
    obtain ⟨a, vs, M, e1, h1, h2, e2⟩ := h
    subst e2
    exact ⟨a, vs, M, e1, e a List.mem_cons_self _ h1, RepOs.mono f os vs M (fun b hb => e b (List.mem_cons_of_mem _ hb)) h2, rfl⟩
  | .tp os, _, L, e, h => by
    obtain ⟨a, vs, M, e1, h1, h2, e2⟩ := h
    subst e2
    exact ⟨a, vs, M, e1, e a List.mem_cons_self _ h1, RepOs.mono f os vs M (fun b hb => e b (List.mem_cons_of_mem _ hb)) h2, rfl⟩
  | .ob c ns os, _, L, e, h => by
    obtain ⟨a, dx, vs, M, e1, h1, h3, h4, h2, hn, e2⟩ := h
    subst e2
    exact ⟨a, dx, vs, M, e1, e a List.mem_cons_self _ h1, e dx (by simp) _ h3, h4, RepOs.mono f os vs M (fun b hb => e b (by simp [hb])) h2, hn, rfl⟩
  | .dt ks ds, _, L, e, h => by
    obtain ⟨a, vs, e1, h1, h3, h2, e2⟩ := h
    subst e2
    exact ⟨a, vs, e1, e a List.mem_cons_self _ h1, h3, Reps.mono f ds vs h2, rfl⟩
  | .dk ks ds, _, L, e, h => by
    obtain ⟨a, vs, e1, h1, h3, h2, e2⟩ := h
    subst e2
    exact ⟨a, vs, e1, e a List.mem_cons_self _ h1, h3, Reps.mono f ds vs h2, rfl⟩
  | .gh o a m, _, L, e, h => by
    obtain ⟨L1, L2, h1, h2, e2⟩ := h
    subst e2
    exact ⟨L1, L2, RepO.mono f o _ L1 (fun b hb => e b (List.mem_append_left _ hb)) h1, RepO.mono f m _ L2 (fun b hb => e b (List.mem_append_right _ hb)) h2, rfl⟩
theorem RepOs.mono (f : Same Hf Hf') : ∀ (os : List O) (vs : List V) (L : List Addr), (∀ a ∈ L, ∀ u, H a = some u → H' a = some u) → RepOs K Hf H os vs L → RepOs K Hf' H' os vs L
  | [], _, _, _, h => h
  | o :: os, _, L, e, h => by
    obtain ⟨v, r, L1, L2, e1, e2, h1, h2⟩ := h
    subst e2
    exact ⟨v, r, L1, L2, e1, rfl, RepO.mono f o v L1 (fun b hb => e b (List.mem_append_left _ hb)) h1, RepOs.mono f os r L2 (fun b hb => e b (List.mem_append_right _ hb)) h2⟩
end
mutual
theorem RepV.mono (f : Same Hf Hf') (e : Sm H H') : ∀ (o : O) (v : V), RepV K Hf H o v → RepV K Hf' H' o v
  | .fz d, _, h => Rep.mono f d _ h
  | .ls os, _, h => by
    obtain ⟨a, vs, e1, h1, h2⟩ := h
    exact ⟨a, vs, e1, e.lst h1, RepVs.mono f e os vs h2⟩
  | .tp os, _, h => by
    obtain ⟨a, vs, e1, h1, h2⟩ := h
    exact ⟨a, vs, e1, e.tup h1, RepVs.mono f e os vs h2⟩
  | .ob c ns os, _, h => by
    obtain ⟨a, dx, vs, e1, h1, h3, h4, h2, hn⟩ := h
    exact ⟨a, dx, vs, e1, e.ins h1, e.own h3, h4, RepVs.mono f e os vs h2, hn⟩
  | .dt ks ds, _, h => by
    obtain ⟨a, vs, e1, h1, h3, h2⟩ := h
    exact ⟨a, vs, e1, h1.imp (fun h => e.dT h) (fun ⟨o, h⟩ => ⟨o, e.at h (Hk.ne rfl)⟩), h3, Reps.mono f ds vs h2⟩
  | .dk ks ds, _, h => by
    obtain ⟨a, vs, e1, h1, h3, h2⟩ := h
    exact ⟨a, vs, e1, e.dK h1, h3, Reps.mono f ds vs h2⟩
  | .gh o a m, _, h => RepV.mono f e o _ h
theorem RepVs.mono (f : Same Hf Hf') (e : Sm H H') : ∀ (os : List O) (vs : List V), RepVs K Hf H os vs → RepVs K Hf' H' os vs
  | [], _, h => h
  | o :: os, _, h => by
    obtain ⟨v, r, e1, h1, h2⟩ := h
    exact ⟨v, r, e1, RepV.mono f e o v h1, RepVs.mono f e os r h2⟩
end
mutual
theorem RepO.view : ∀ (o : O) (v : V) (L : List Addr), RepO K Hf H o v L → RepV K Hf H o v
  | .fz _, _, _, h => h.1
  | .ls os, _, _, h => by
    obtain ⟨a, vs, M, e1, h1, h2, _⟩ := h
    exact ⟨a, vs, e1, h1, RepOs.view os vs M h2⟩
  | .tp os, _, _, h => by
    obtain ⟨a, vs, M, e1, h1, h2, _⟩ := h
    exact ⟨a, vs, e1, h1, RepOs.view os vs M h2⟩
  | .ob c ns os, _, _, h => by
    obtain ⟨a, dx, vs, M, e1, h1, h3, h4, h2, hn, _⟩ := h
    exact ⟨a, dx, vs, e1, h1, h3, h4, RepOs.view os vs M h2, hn⟩
  | .dt ks ds, _, _, h => by
    obtain ⟨a, vs, e1, h1, h3, h2, _⟩ := h
    exact ⟨a, vs, e1, .inl h1, h3, h2⟩
  | .dk ks ds, _, _, h => by
    obtain ⟨a, vs, e1, h1, h3, h2, _⟩ := h
    exact ⟨a, vs, e1, h1, h3, h2⟩
  | .gh o a m, _, _, h => by
    obtain ⟨L1, L2, h1, h2, e2⟩ := h
    exact RepO.view o _ L1 h1
theorem RepOs.view : ∀ (os : List O) (vs : List V) (L : List Addr), RepOs K Hf H os vs L → RepVs K Hf H os vs
  | [], _, _, h => h.1
  | o :: os, _, _, h => by
    obtain ⟨v, r, L1, L2, e1, _, h1, h2⟩ := h
    exact ⟨v, r, e1, RepO.view o v L1 h1, RepOs.view os r L2 h2⟩
end
def NX (H : Hp) (L : List Addr) : Prop := ∀ a ∈ L, ∀ φ : Hk, H a ≠ some φ.o
def addF (Hf H : Hp) (L : List Addr) : Hp := fun a => if a ∈ L then H a else Hf a
theorem addF_in {L : List Addr} {a : Addr} (h : a ∈ L) : addF Hf H L a = H a := if_pos h
theorem addF_out {L : List Addr} {a : Addr} (h : a ∉ L) : addF Hf H L a = Hf a := if_neg h
theorem addF_same {L : List Addr} (hf : ∀ a ∈ L, Hf a = none) : Same Hf (addF Hf H L) := fun a o e => by
  by_cases h : a ∈ L
  · rw [hf a h] at e; cases e
  · rw [addF_out h]; exact e
theorem addF_sub {L : List Addr} (s : Same Hf H) : Same (addF Hf H L) H := fun a o e => by
  by_cases h : a ∈ L
  · rw [addF_in h] at e; exact e
  · rw [addF_out h] at e; exact s a o e
theorem Rows.add {T : List Addr} {L : List Addr} (r : Rows T Hf H) (nx : NX H L) (nr : NR H L) (hf : ∀ a ∈ L, Hf a = none) : Rows T (addF Hf H L) H := by
  refine r.ro (addF_same hf) (fun a o h q => ?_) (fun a C dx fs h q => ?_) fun _ _ h => h
  · by_cases ha : a ∈ L
    · rw [addF_in ha] at h
      intro k
      obtain ⟨φ, z⟩ := isKn_ext k
      exact nx a ha φ (by rw [h, z])
    · rw [addF_out ha, q] at h; cases h
  · by_cases ha : a ∈ L
    · rw [addF_in ha] at h; exact nr a ha C dx fs h
    · rw [addF_out ha, q] at h; cases h
theorem NX.kp {L : List Addr} (n : NX H L) (e : Sm H H') : ∀ a ∈ L, ∀ u, H a = some u → H' a = some u := fun a ha u h => e.at h fun φ z => n a ha φ (by rw [h, z])
mutual
theorem RepO.nx : ∀ (o : O) (v : V) (L : List Addr), RepO K Hf H o v L → NX H L
  | .fz _, _, _, h => by rw [h.2]; exact fun a ha => nomatch ha
  | .ls os, _, _, h => by
    obtain ⟨a, vs, M, e1, h1, h2, e2⟩ := h
    subst e2
    intro b hb φ z
    rcases List.mem_cons.mp hb with e | e
    · subst e; rw [h1] at z; cases φ <;> cases z
    · exact RepOs.nx os vs M h2 b e φ z
  | .tp os, _, _, h => by
    obtain ⟨a, vs, M, e1, h1, h2, e2⟩ := h
    subst e2
    intro b hb φ z
    rcases List.mem_cons.mp hb with e | e
    · subst e; rw [h1] at z; cases φ <;> cases z
    · exact RepOs.nx os vs M h2 b e φ z
  | .ob c ns os, _, _, h => by
    obtain ⟨a, dx, vs, M, e1, h1, h3, h4, h2, hn, e2⟩ := h
    subst e2
    intro b hb φ z
    rcases List.mem_cons.mp hb with e | e
    · subst e; rw [h1] at z; cases φ <;> cases z
    · rcases List.mem_cons.mp e with e | e
      · subst e; rw [h3] at z; cases φ <;> cases z
      · exact RepOs.nx os vs M h2 b e φ z
  | .dt ks ds, _, _, h => by
    obtain ⟨a, vs, e1, h1, h3, h2, e2⟩ := h
    subst e2
    intro b hb φ z
    rcases List.mem_cons.mp hb with e | e
    · subst e; rw [h1] at z; cases φ <;> cases z
    · cases e
  | .dk ks ds, _, _, h => by
    obtain ⟨a, vs, e1, h1, h3, h2, e2⟩ := h
    subst e2
    intro b hb φ z
    rcases List.mem_cons.mp hb with e | e
    · subst e; rw [h1] at z; cases φ <;> cases z
    · cases e
  | .gh o a m, _, _, h => by
    obtain ⟨L1, L2, h1, h2, e2⟩ := h
    subst e2
    intro b hb φ z
    rcases List.mem_append.mp hb with e | e
    · exact RepO.nx o _ L1 h1 b e φ z
    · exact RepO.nx m _ L2 h2 b e φ z
theorem RepOs.nx : ∀ (os : List O) (vs : List V) (L : List Addr), RepOs K Hf H os vs L → NX H L
  | [], _, _, h => by rw [h.2]; exact fun a ha => nomatch ha
  | o :: os, _, _, h => by
    obtain ⟨v, r, L1, L2, e1, e2, h1, h2⟩ := h
    subst e2
    intro b hb φ z
    rcases List.mem_append.mp hb with e | e
    · exact RepO.nx o v L1 h1 b e φ z
    · exact RepOs.nx os r L2 h2 b e φ z
end
theorem zip_fst {ns : List Str} {vs : List V} (h : ns.length = vs.length) : (ns.zip vs).map (·.1) = ns := by
  rw [List.map_fst_zip]
  omega
theorem RepOs.length0 : ∀ {os : List O} {vs : List V} {L : List Addr}, RepOs K Hf H os vs L → vs.length = os.length
  | [], _, _, h => by have h : _ = _ := h.1; subst h; rfl
  | d :: ds, _, _, h => by
    obtain ⟨v, r, L1, L2, e1, _, _, h2⟩ := h
    subst e1
    simp [RepOs.length0 h2]
mutual
theorem RepO.nr : ∀ (o : O) (v : V) (L : List Addr), RepO K Hf H o v L → NR H L
  | .fz _, _, _, h => by rw [h.2]; exact fun a ha => nomatch ha
  | .ls os, _, _, h => by
    obtain ⟨a, vs, M, e1, h1, h2, e2⟩ := h
    subst e2
    intro b hb C dx fs z
    rcases List.mem_cons.mp hb with e | e
    · subst e; rw [h1] at z; cases z
    · exact RepOs.nr os vs M h2 b e C dx fs z
  | .tp os, _, _, h => by
    obtain ⟨a, vs, M, e1, h1, h2, e2⟩ := h
    subst e2
    intro b hb C dx fs z
    rcases List.mem_cons.mp hb with e | e
    · subst e; rw [h1] at z; cases z
    · exact RepOs.nr os vs M h2 b e C dx fs z
  | .ob c ns os, _, _, h => by
    obtain ⟨a, dx, vs, M, e1, h1, h3, h4, h2, hn, e2⟩ := h
    subst e2
    intro b hb C dx' fs z
    rcases List.mem_cons.mp hb with e | e
    · subst e; rw [h1] at z; cases z; rw [zip_fst (by rw [h4, RepOs.length0 h2])]; exact hn
    · rcases List.mem_cons.mp e with e | e
      · subst e; rw [h3] at z; cases z
      · exact RepOs.nr os vs M h2 b e C dx' fs z
  | .dt ks ds, _, _, h => by
    obtain ⟨a, vs, e1, h1, h3, h2, e2⟩ := h
    subst e2
    intro b hb C dx fs z
    rcases List.mem_cons.mp hb with e | e
    · subst e; rw [h1] at z; cases z
    · cases e
  | .dk ks ds, _, _, h => by
    obtain ⟨a, vs, e1, h1, h3, h2, e2⟩ := h
    subst e2
    intro b hb C dx fs z
    rcases List.mem_cons.mp hb with e | e
    · subst e; rw [h1] at z; cases z
    · cases e
  | .gh o a m, _, _, h => by
    obtain ⟨L1, L2, h1, h2, e2⟩ := h
    subst e2
    intro b hb C dx fs z
    rcases List.mem_append.mp hb with e | e
    · exact RepO.nr o _ L1 h1 b e C dx fs z
    · exact RepO.nr m _ L2 h2 b e C dx fs z
theorem RepOs.nr : ∀ (os : List O) (vs : List V) (L : List Addr), RepOs K Hf H os vs L → NR H L
  | [], _, _, h => by rw [h.2]; exact fun a ha => nomatch ha
  | o :: os, _, _, h => by
    obtain ⟨v, r, L1, L2, e1, e2, h1, h2⟩ := h
    subst e2
    intro b hb C dx fs z
    rcases List.mem_append.mp hb with e | e
    · exact RepO.nr o v L1 h1 b e C dx fs z
    · exact RepOs.nr os r L2 h2 b e C dx fs z
end
mutual
theorem RepO.frozen (G : Hp) (f : Same Hf G) : ∀ (o : O) (v : V) (L : List Addr), (∀ a ∈ L, G a = H a) → RepO K Hf H o v L → Rep K G (er o) v
  | .fz d, _, _, _, h => Rep.mono f d _ h.1
  | .ls os, _, _, e, h => by
    obtain ⟨a, vs, M, e1, h1, h2, e2⟩ := h
    subst e2
    refine ⟨a, vs, e1, ?_, RepOs.frozen G f os vs M (fun b hb => e b (List.mem_cons_of_mem _ hb)) h2⟩
    rw [e a List.mem_cons_self]; exact h1
  | .tp os, _, _, e, h => by
    obtain ⟨a, vs, M, e1, h1, h2, e2⟩ := h
    subst e2
    refine ⟨a, vs, e1, ?_, RepOs.frozen G f os vs M (fun b hb => e b (List.mem_cons_of_mem _ hb)) h2⟩
    rw [e a List.mem_cons_self]; exact h1
  | .ob c ns os, _, _, e, h => by
    obtain ⟨a, dx, vs, M, e1, h1, h3, h4, h2, hn, e2⟩ := h
    subst e2
    refine ⟨a, dx, vs, e1, ?_, ?_, by rw [h4, ers_eq, List.length_map], RepOs.frozen G f os vs M (fun b hb => e b (by simp [hb])) h2⟩
    · rw [e a List.mem_cons_self]; exact h1
    · rw [e dx (by simp)]; exact h3
  | .dt ks ds, _, _, e, h => by
    obtain ⟨a, vs, e1, h1, h3, h2, e2⟩ := h
    subst e2
    refine ⟨a, vs, e1, .inl ?_, h3, Reps.mono f ds vs h2⟩
    rw [e a List.mem_cons_self]; exact h1
  | .dk ks ds, _, _, e, h => by
    obtain ⟨a, vs, e1, h1, h3, h2, e2⟩ := h
    subst e2
    refine ⟨a, vs, e1, ?_, h3, Reps.mono f ds vs h2⟩
    rw [e a List.mem_cons_self]; exact h1
  | .gh o a m, _, _, e, h => by
    obtain ⟨L1, L2, h1, h2, e2⟩ := h
    subst e2
    exact RepO.frozen G f o _ L1 (fun b hb => e b (List.mem_append_left _ hb)) h1
theorem RepOs.frozen (G : Hp) (f : Same Hf G) : ∀ (os : List O) (vs : List V) (L : List Addr), (∀ a ∈ L, G a = H a) → RepOs K Hf H os vs L → Reps K G (ers os) vs
  | [], _, _, _, h => h.1
  | o :: os, _, _, e, h => by
    obtain ⟨v, r, L1, L2, e1, e2, h1, h2⟩ := h
    subst e2
    exact ⟨v, r, e1, RepO.frozen G f o v L1 (fun b hb => e b (List.mem_append_left _ hb)) h1, RepOs.frozen G f os r L2 (fun b hb => e b (List.mem_append_right _ hb)) h2⟩
end
theorem Reps.length : ∀ {ds : List D} {vs : List V}, Reps K H ds vs → vs.length = ds.length
  | [], _, h => by have h : _ = _ := h; subst h; rfl
  | d :: ds, _, h => by
    obtain ⟨v, r, e1, _, h2⟩ := h
    subst e1
    simp [Reps.length h2]
theorem RepVs.length : ∀ {os : List O} {vs : List V}, RepVs K Hf H os vs → vs.length = os.length
  | [], _, h => by have h : _ = _ := h; subst h; rfl
  | d :: ds, _, h => by
    obtain ⟨v, r, e1, _, h2⟩ := h
    subst e1
    simp [RepVs.length h2]
theorem RepOs.length : ∀ {os : List O} {vs : List V} {L : List Addr}, RepOs K Hf H os vs L → vs.length = os.length
  | [], _, _, h => by have h : _ = _ := h.1; subst h; rfl
  | d :: ds, _, _, h => by
    obtain ⟨v, r, L1, L2, e1, _, _, h2⟩ := h
    subst e1
    simp [RepOs.length h2]
end
def kO (k : List Key) : O := .tp (k.map fun x => match x with | .inl i => .fz (.int i) | .inr t => .fz (.str t))
theorem kO_rep {K : PySem.W.Frag} {Hf H : Hp} {q : Addr} : ∀ {k : List Key}, H q = some (.tup (k.map kV)) → RepV K Hf H (kO k) (.ref q) := fun {k} h => by
  refine ⟨q, k.map kV, rfl, h, ?_⟩
  clear h
  induction k with
  | nil => rfl
  | cons x k ih =>
    refine ⟨kV x, k.map kV, rfl, ?_, ih⟩
    cases x <;> rfl
inductive Res (α : Type) where | ok (a : α) | exc (e : Ec) | bad
def Res.bind {α β : Type} (x : Res α) (f : α → Res β) : Res β := match x with
  | .ok a => f a
  | .exc e => .exc e
  | .bad => .bad
instance : Monad Res where
  pure := .ok
  bind := Res.bind
inductive S where | un | vl (own : Bool) (o : O)
  | me (a : Addr) (o : O)
  | tq (k : List Key)
  | lt (a : Addr) (o : O)
  | fa (f : Addr)
abbrev Env := List S
inductive Out where | nx (r : Env) | ret (o : O) | bk (r : Env) | ct (r : Env) | exc (e : Ec) (r : Env) | bad
inductive R where | nw (o : O) | vw (o : O) | bw (o : O)
abbrev FE := Env → Res R
abbrev FS := Env → Out
structure Ext (Hf H Hf' H' : Hp) : Prop where
  same : Sm H H'
  fsame : Same Hf Hf'
  sub : Same Hf' H'
  keep : ∀ a, H a ≠ none → Hf' a ≠ none → Hf a ≠ none
  rows : ∀ {T : List Addr}, Rows T Hf H → Rows T Hf' H'
theorem Ext.refl {Hf H : Hp} (s : Same Hf H) : Ext Hf H Hf H := ⟨Sm.refl _, Same.refl _, s, fun _ _ h => h, fun h => h⟩
theorem Ext.trans {Hf H Hf1 H1 Hf2 H2 : Hp} (x : Ext Hf H Hf1 H1) (y : Ext Hf1 H1 Hf2 H2) : Ext Hf H Hf2 H2 :=
  ⟨x.same.trans y.same, x.fsame.trans y.fsame, y.sub, fun a h1 h2 => x.keep a h1 (y.keep a (x.same.ne_none h1) h2), fun h => y.rows (x.rows h)⟩
def SlotR (K : PySem.W.Frag) (Hf H0 H : Hp) : S → Option V → List Addr → Prop
  | .un, _, L => L = []
  | .me a o, some v, L => v = .ref a ∧ RepO K Hf H o v L
  | .me _ _, none, _ => False
  | .tq k, some v, L => L = [] ∧ ∃ q, v = .ref q ∧ H q = some (.tup (k.map kV))
  | .tq _, none, _ => False
  | .lt a o, some v, L => L = [] ∧ v = .ref a ∧ RepV K Hf H0 o v
  | .lt _ _, none, _ => False
  | .fa f, some v, L => L = [] ∧ v = .ref f
  | .fa _, none, _ => False
  | .vl true o, some v, L => RepO K Hf H o v L
  | .vl false o, some v, L => RepV K Hf H0 o v ∧ L = []
  | .vl _ _, none, _ => False
def EnvR (K : PySem.W.Frag) (Hf H0 H : Hp) : Env → St → List Addr → Prop
  | [], s, L => s = [] ∧ L = []
  | x :: r, s, L => ∃ y t L1 L2, s = y :: t ∧ L = L1 ++ L2 ∧ SlotR K Hf H0 H x y L1 ∧ EnvR K Hf H0 H r t L2
structure SR (K : PySem.W.Frag) (Hf0 H0 : Hp) (r : Env) (s : St) (Hf H : Hp) (L : List Addr) : Prop where
  ext : Ext Hf0 H0 Hf H
  env : EnvR K Hf H0 H r s L
  nd : L.Nodup
  fr : ∀ a ∈ L, Hf a = none ∧ H0 a = none
  ok : ∀ a ∈ L, H a ≠ none
  rows : Rows (tK K) Hf H
def ResR (K : PySem.W.Frag) (H0 Hf H : Hp) : R → V → List Addr → Prop
  | .nw o, v, L => RepO K Hf H o v L
  | .vw o, v, L => RepV K Hf H o v ∧ L = []
  | .bw o, v, L => RepV K Hf H0 o v ∧ L = []
structure Nw (H Hf' H' : Hp) (L : List Addr) : Prop where
  nd : L.Nodup
  fr : ∀ a ∈ L, H a = none ∧ Hf' a = none ∧ H' a ≠ none
abbrev Wx := Value → Option Addr → St → Hp → Prop
structure Cn where
  Hf0 : Hp
  H0 : Hp
  W : Wx
abbrev Cn.SR (c : Cn) (K : PySem.W.Frag) (r : Env) (s : St) (Hf H : Hp) (L : List Addr) : Prop := DL.SR K c.Hf0 c.H0 r s Hf H L
def PostX (c : Cn) (K : PySem.W.Frag) (s : St) (Hf H : Hp) (e : Ec) : Prop := ∀ cls d Hf' H', Ext Hf H Hf' H' → EcR K e cls d Hf' → c.W cls d s H'
def PostE (c : Cn) (K : PySem.W.Frag) (s : St) (Hf H : Hp) (Q : VK) : Res R → Prop
  | .ok r => ∀ v Hf' H' L, Ext Hf H Hf' H' → ResR K c.H0 Hf' H' r v L → Nw H Hf' H' L → Q v H'
  | .exc e => PostX c K s Hf H e
  | .bad => False
def PostT (c : Cn) (K : PySem.W.Frag) (s : St) (Hf H : Hp) (Q : Bool → Hp → Prop) : Res Bool → Prop
  | .ok b => ∀ Hf' H', Ext Hf H Hf' H' → Q b H'
  | .exc e => PostX c K s Hf H e
  | .bad => False
def PostA (c : Cn) (K : PySem.W.Frag) (s : St) (Hf H : Hp) (Q : List V → Hp → Prop) : Res (List O) → Prop
  | .ok os => ∀ vs Hf' H', Ext Hf H Hf' H' → RepVs K Hf' H' os vs → Q vs H'
  | .exc e => PostX c K s Hf H e
  | .bad => False
def PostS (c : Cn) (K : PySem.W.Frag) (G : Hp) (D : Ends) : Out → Prop
  | .nx r => ∀ s Hf H L, Same G Hf → c.SR K r s Hf H L → D.nx s H
  | .bk r => ∀ s Hf H L, Same G Hf → c.SR K r s Hf H L → D.bk s H
  | .ct r => ∀ s Hf H L, Same G Hf → c.SR K r s Hf H L → D.ct s H
  | .ret o => ∀ v Hf H L, Same G Hf → Ext c.Hf0 c.H0 Hf H → RepO K Hf H o v L → Nw c.H0 Hf H L → D.rt v H
  | .exc e r => ∀ s cls d Hf H L, Same G Hf → c.SR K r s Hf H L → EcR K e cls d Hf → c.W cls d s H
  | .bad => False
def SoE (c : Cn) (K : PySem.W.Frag) (t : TE) (f : FE) : Prop := ∀ r s Hf H L, c.SR K r s Hf H L → ∀ Q, PostE c K s Hf H Q (f r) → t s H Q
def SoT (c : Cn) (K : PySem.W.Frag) (t : TT) (f : Env → Res Bool) : Prop := ∀ r s Hf H L, c.SR K r s Hf H L → ∀ Q, PostT c K s Hf H Q (f r) → t s H Q
def SoA (c : Cn) (K : PySem.W.Frag) (t : TA) (f : Env → Res (List O)) : Prop := ∀ r s Hf H L, c.SR K r s Hf H L → ∀ Q, PostA c K s Hf H Q (f r) → t s H Q
def SoS (c : Cn) (K : PySem.W.Frag) (t : TS) (f : FS) : Prop := ∀ r s Hf H L, c.SR K r s Hf H L → ∀ D, PostS c K Hf D (f r) → t D s H
theorem PostS.mono {c : Cn} {K : PySem.W.Frag} {G G' : Hp} {D : Ends} {o : Out} (e : Same G G') (h : PostS c K G D o) : PostS c K G' D o := by
  cases o with
  | nx r => exact fun s Hf H L f => h s Hf H L (e.trans f)
  | bk r => exact fun s Hf H L f => h s Hf H L (e.trans f)
  | ct r => exact fun s Hf H L f => h s Hf H L (e.trans f)
  | ret o => exact fun v Hf H L f => h v Hf H L (e.trans f)
  | exc e' r => exact fun s cls d Hf H L f => h s cls d Hf H L (e.trans f)
  | bad => exact h
structure DE (c : Cn) (X : Cx) (e : Expr) (f : FE) : Prop where
  ex : ∃ t, PE X e t ∧ SoE c X.K t f
structure DT (c : Cn) (X : Cx) (e : Expr) (f : Env → Res Bool) : Prop where
  ex : ∃ t, PT X e t ∧ SoT c X.K t f
structure DW (c : Cn) (X : Cx) (e : Expr) (f : Env → Res Bool) : Prop where
  ex : ∃ t, PW X e t ∧ SoT c X.K t f
structure DA (c : Cn) (X : Cx) (e : List Expr) (f : Env → Res (List O)) : Prop where
  ex : ∃ t, PA X e t ∧ SoA c X.K t f
structure DS (c : Cn) (X : Cx) (st : Stmt) (f : FS) : Prop where
  ex : ∃ t, PS X st t ∧ SoS c X.K t f
structure DSs (c : Cn) (X : Cx) (st : List Stmt) (f : FS) : Prop where
  ex : ∃ t, PSs X st t ∧ SoS c X.K t f
section
variable {K : PySem.W.Frag} {H0 H H' Hf Hf' : Hp}
def Tst (H H' : Hp) : Prop := ∀ q xs, H q = some (.tup xs) → H' q = some (.tup xs)
theorem Tst.sm {H H' : Hp} (e : Sm H H') : Tst H H' := fun _ _ h => e.tup h
theorem Tst.rf {H : Hp} : Tst H H := fun _ _ h => h
theorem Tst.up {H : Hp} {p : Addr} {u u' : HO} (h : H p = some u) (n : ∀ xs, u ≠ .tup xs) : Tst H (upd H p u') := fun q xs z => by
  by_cases e : q = p
  · subst e; rw [h] at z; exact absurd (Option.some.inj z) (n xs)
  · rw [upd_ne e]; exact z
theorem Tst.new {H : Hp} {p : Addr} {u : HO} (h : H p = none) : Tst H (upd H p u) := fun q xs z => by rw [upd_ne (ne_of_none z h)]; exact z
theorem EnvR.mono (f : Same Hf Hf') (T : Tst H H') : ∀ {r : Env} {s : St} {L : List Addr}, (∀ a ∈ L, ∀ u, H a = some u → H' a = some u) → EnvR K Hf H0 H r s L → EnvR K Hf' H0 H' r s L
  | [], _, _, _, h => h
  | x :: r, _, L, e, h => by
    obtain ⟨y, t, L1, L2, e1, e2, h1, h2⟩ := h
    subst e2
    refine ⟨y, t, L1, L2, e1, rfl, ?_, EnvR.mono f T (fun b hb => e b (List.mem_append_right _ hb)) h2⟩
    cases x with
    | un => exact h1
    | me a o =>
      cases y with
      | none => exact h1
      | some v => exact ⟨h1.1, RepO.mono f o v L1 (fun b hb => e b (List.mem_append_left _ hb)) h1.2⟩
    | tq k =>
      cases y with
      | none => exact h1
      | some v => exact let ⟨h2, q, h3, h4⟩ := h1; ⟨h2, q, h3, T _ _ h4⟩
    | lt a o =>
      cases y with
      | none => exact h1
      | some v => exact ⟨h1.1, h1.2.1, RepV.mono f (Sm.refl _) o v h1.2.2⟩
    | fa a =>
      cases y with
      | none => exact h1
      | some v => exact h1
    | vl w o =>
      cases y with
      | none => cases w <;> exact h1
      | some v =>
        cases w with
        | true => exact RepO.mono f o v L1 (fun b hb => e b (List.mem_append_left _ hb)) h1
        | false => exact ⟨RepV.mono f (Sm.refl _) o v h1.1, h1.2⟩
theorem EnvR.at : ∀ {r : Env} {s : St} {L : List Addr} {i : Nat} {x : S}, EnvR K Hf H0 H r s L → r[i]? = some x → ∃ y L1 M L2, s[i]? = some y ∧ L = L1 ++ M ++ L2 ∧ SlotR K Hf H0 H x y M ∧
    ∀ (Hf' H' : Hp) (x' : S) (y' : Option V) (M' : List Addr), Same Hf Hf' → Tst H H' → (∀ a ∈ L1 ++ L2, ∀ u, H a = some u → H' a = some u) → SlotR K Hf' H0 H' x' y' M' → EnvR K Hf' H0 H' (r.set i x') (s.set i y') (L1 ++ M' ++ L2)
  | [], _, _, _, _, _, e => by simp at e
  | z :: r, _, L, 0, x, h, e => by
    obtain ⟨y, t, L1, L2, e1, e2, h1, h2⟩ := h
    subst e1 e2
    have e3 : z = x := by simpa using e
    subst e3
    refine ⟨y, [], L1, L2, rfl, rfl, h1, fun Hf' H' x' y' M' f T k q => ?_⟩
    exact ⟨y', t, M', L2, rfl, rfl, q, h2.mono f T fun a ha => k a (by simpa using ha)⟩
  | z :: r, _, L, i + 1, x, h, e => by
    obtain ⟨y, t, L1, L2, e1, e2, h1, h2⟩ := h
    subst e1 e2
    obtain ⟨y2, A, M, B, f1, f2, f3, f4⟩ := EnvR.at (i := i) (x := x) h2 (by simpa using e)
    subst f2
    refine ⟨y2, L1 ++ A, M, B, by simpa using f1, by simp [List.append_assoc], f3, fun Hf' H' x' y' M' f T k q => ?_⟩
    refine ⟨y, t.set i y', L1, A ++ M' ++ B, rfl, by simp [List.append_assoc], ?_, f4 Hf' H' x' y' M' f T (fun a ha => k a ?_) q⟩
    · have one : EnvR K Hf' H0 H' [z] [y] L1 := EnvR.mono (H := H) f T (fun a ha => k a (by simp [ha])) ⟨y, [], L1, [], rfl, by simp, h1, rfl, rfl⟩
      obtain ⟨y3, t3, A1, A2, g1, g2, g3, g4⟩ := one
      cases g1
      obtain ⟨g5, g6⟩ := g4
      subst g6
      rw [List.append_nil] at g2
      subst g2
      exact g3
    · simp only [List.mem_append] at ha ⊢
      rcases ha with ha | ha
      · exact .inl (.inr ha)
      · exact .inr ha
theorem EnvR.nx : ∀ {r : Env} {s : St} {L : List Addr}, EnvR K Hf H0 H r s L → NX H L
  | [], _, _, h => by rw [h.2]; exact fun a ha => nomatch ha
  | x :: r, _, L, h => by
    obtain ⟨y, t, L1, L2, e1, e2, h1, h2⟩ := h
    subst e2
    intro b hb φ z
    rcases List.mem_append.mp hb with e | e
    · cases x with
      | un => rw [show L1 = [] from h1] at e; cases e
      | me a o =>
        cases y with
        | none => exact h1.elim
        | some v => exact RepO.nx o v L1 h1.2 b e φ z
      | tq k =>
        cases y with
        | none => exact h1.elim
        | some v => rw [h1.1] at e; cases e
      | lt _ _ =>
        cases y with
        | none => exact h1.elim
        | some v => rw [h1.1] at e; cases e
      | fa _ =>
        cases y with
        | none => exact h1.elim
        | some v => rw [h1.1] at e; cases e
      | vl w o =>
        cases y with
        | none => cases w <;> exact h1.elim
        | some v =>
          cases w with
          | true => exact RepO.nx o v L1 h1 b e φ z
          | false => rw [h1.2] at e; cases e
    · exact h2.nx b e φ z
theorem EnvR.length : ∀ {r : Env} {s : St} {L : List Addr}, EnvR K Hf H0 H r s L → s.length = r.length
  | [], _, _, h => by rw [h.1]; rfl
  | x :: r, _, L, h => by
    obtain ⟨y, t, L1, L2, e1, e2, h1, h2⟩ := h
    subst e1
    simp [h2.length]
theorem Ext.nf {Hf H Hf' H' : Hp} (x : Ext Hf H Hf' H') {a : Addr} (h1 : H a ≠ none) (h2 : Hf a = none) : Hf' a = none := by
  cases q : Hf' a with
  | none => rfl
  | some o => exact absurd h2 (x.keep a h1 (by rw [q]; simp))
theorem Ext.fresh {Hf H Hf' H' : Hp} (x : Ext Hf H Hf' H') {a : Addr} (h : H' a = none) : H a = none := x.same.free h
theorem SR.sub {Hf0 : Hp} {r : Env} {s : St} {L : List Addr} (h : SR K Hf0 H0 r s Hf H L) : Same Hf H := h.ext.sub
theorem SR.mono {Hf0 : Hp} {r : Env} {s : St} {L : List Addr} (h : SR K Hf0 H0 r s Hf H L) (x : Ext Hf H Hf' H') : SR K Hf0 H0 r s Hf' H' L :=
  ⟨h.ext.trans x, h.env.mono x.fsame (Tst.sm x.same) (h.env.nx.kp x.same), h.nd, fun a ha => ⟨x.nf (h.ok a ha) (h.fr a ha).1, (h.fr a ha).2⟩, fun a ha => x.same.ne_none (h.ok a ha), x.rows h.rows⟩
theorem ResR.mono {r : R} {v : V} {L : List Addr} (f : Same Hf Hf') (e : Sm H H') (h : ResR K H0 Hf H r v L) : ResR K H0 Hf' H' r v L := by
  cases r with
  | nw o => exact RepO.mono f o v L ((RepO.nx o v L h).kp e) h
  | vw o => exact ⟨RepV.mono f e o v h.1, h.2⟩
  | bw o => exact ⟨RepV.mono f (Sm.refl _) o v h.1, h.2⟩
def R.a : R → O
  | .nw o => .fz (er o)
  | .vw o => o
  | .bw o => o
theorem Ext.add {L : List Addr} (x : Ext Hf H Hf' H') (n : Nw H Hf' H' L) (nq : NX H' L ∧ NR H' L) : Ext Hf H (addF Hf' H' L) H' :=
  ⟨x.same, x.fsame.trans (addF_same fun a ha => (n.fr a ha).2.1), addF_sub x.sub, fun a h1 h2 => by
    by_cases ha : a ∈ L
    · exact absurd (n.fr a ha).1 h1
    · rw [addF_out ha] at h2
      exact x.keep a h1 h2, fun h => (x.rows h).add nq.1 nq.2 fun a ha => (n.fr a ha).2.1⟩
theorem addF_nw {L : List Addr} (n : Nw H Hf' H' L) : Same Hf' (addF Hf' H' L) := addF_same fun a ha => (n.fr a ha).2.1
theorem ResR.nq {r : R} {v : V} {L : List Addr} (h : ResR K H0 Hf H r v L) : NX H L ∧ NR H L := by
  cases r with
  | nw o => exact ⟨RepO.nx o v L h, RepO.nr o v L h⟩
  | vw o => rw [h.2]; exact ⟨fun a ha => (nomatch ha), fun a ha => (nomatch ha)⟩
  | bw o => rw [h.2]; exact ⟨fun a ha => (nomatch ha), fun a ha => (nomatch ha)⟩
def see (own : Bool) : O → R
  | .fz d => .nw (.fz d)
  | o => if own then .vw o else .bw o
end
end DL
namespace DL
open PySem L2
def items : O → Option (List O)
  | .ls os => some os
  | .fz (.lst ds) => some (ds.map .fz)
  | .fz (.scr ns) => some (ns.map fun n => .fz (.int n))
  | _ => none
section
variable {K : PySem.W.Frag} {H0 H H' Hf Hf' : Hp}
theorem reps_fz : ∀ {ds : List D} {vs : List V}, Reps K Hf ds vs → RepVs K Hf H (ds.map .fz) vs
  | [], _, h => h
  | d :: ds, _, h => by
    obtain ⟨v, r, e, h1, h2⟩ := h
    exact ⟨v, r, e, h1, reps_fz h2⟩
theorem ints_fz : ∀ {ns : List Int}, RepVs K Hf H (ns.map fun n => .fz (.int n)) (ns.map V.int)
  | [] => rfl
  | n :: ns => ⟨_, _, rfl, rfl, ints_fz⟩
theorem items_rep {o : O} {os : List O} {v : V} (s : Same Hf H) (h : RepV K Hf H o v) (e : items o = some os) : ∃ a vs, v = .ref a ∧ SqL K H a vs ∧ RepVs K Hf H os vs := by
  cases o with
  | ls os' =>
    have e' : os' = os := Option.some.inj e
    subst e'
    obtain ⟨a, vs, e1, h1, h2⟩ := h
    exact ⟨a, vs, e1, SqL.of h1, h2⟩
  | tp _ => cases e
  | ob _ _ _ => cases e
  | dt _ _ => cases e
  | dk _ _ => cases e
  | gh _ _ _ => cases e
  | fz d =>
    cases d with
    | lst ds =>
      have e' : ds.map O.fz = os := Option.some.inj e
      subst e'
      obtain ⟨a, vs, e1, h1, h2⟩ := h
      exact ⟨a, vs, e1, SqL.of (s _ _ h1), reps_fz h2⟩
    | scr ns =>
      have e' : (ns.map fun n => O.fz (.int n)) = os := Option.some.inj e
      subst e'
      obtain ⟨a, e1, h1⟩ := h
      exact ⟨a, _, e1, s.seq h1, ints_fz⟩
    | non => cases e
    | bl b => cases e
    | int i => cases e
    | str x => cases e
    | ex c => cases e
    | tup ds => cases e
    | obj _ _ _ => cases e
    | row _ _ => cases e
    | dct _ _ => cases e
    | dck _ _ => cases e
theorem RepVs.get : ∀ {os : List O} {vs : List V} {i : Nat} {o : O}, RepVs K Hf H os vs → os[i]? = some o → ∃ v, vs[i]? = some v ∧ RepV K Hf H o v
  | [], _, _, _, _, e => by simp at e
  | x :: os, _, 0, o, h, e => by
    obtain ⟨v, r, e1, h1, h2⟩ := h
    subst e1
    have e2 : x = o := by simpa using e
    subst e2
    exact ⟨v, rfl, h1⟩
  | x :: os, _, i + 1, o, h, e => by
    obtain ⟨v, r, e1, h1, h2⟩ := h
    subst e1
    obtain ⟨w, hw, hr⟩ := RepVs.get (i := i) (o := o) h2 (by simpa using e)
    exact ⟨w, by simpa using hw, hr⟩
structure Pst (c : Cn) (K : PySem.W.Frag) (s : St) {β : Type} (post : Hp → Hp → Res β → Prop) : Prop where
  bad : ∀ Hf H, ¬ post Hf H .bad
  exc : ∀ Hf H e, post Hf H (.exc e) → PostX c K s Hf H e
  mono : ∀ Hf H Hf' H' z, Ext Hf H Hf' H' → post Hf H z → post Hf' H' z
theorem PostX.mono {c : Cn} {s : St} {e : Ec} (x : Ext Hf H Hf' H') (h : PostX c K s Hf H e) : PostX c K s Hf' H' e := fun cls d Hf2 H2 y q => h cls d Hf2 H2 (x.trans y) q
theorem Nw.mono {L : List Addr} {H1 Hf2 H2 : Hp} (e : Sm H H1) (n : Nw H1 Hf2 H2 L) : Nw H Hf2 H2 L := ⟨n.nd, fun a ha => ⟨e.free (n.fr a ha).1, (n.fr a ha).2⟩⟩
theorem pstE {c : Cn} {s : St} {Q : VK} : Pst c K s (fun Hf H z => PostE c K s Hf H Q z) where
  bad := fun _ _ h => h
  exc := fun _ _ _ h => h
  mono := fun Hf H Hf' H' z x h => by
    cases z with
    | ok r => exact fun v Hf2 H2 L y q n => h v Hf2 H2 L (x.trans y) q (n.mono x.same)
    | exc e => exact PostX.mono x h
    | bad => exact h
theorem pstT {c : Cn} {s : St} {Q : Bool → Hp → Prop} : Pst c K s (fun Hf H z => PostT c K s Hf H Q z) where
  bad := fun _ _ h => h
  exc := fun _ _ _ h => h
  mono := fun Hf H Hf' H' z x h => by
    cases z with
    | ok r => exact fun Hf2 H2 y => h Hf2 H2 (x.trans y)
    | exc e => exact PostX.mono x h
    | bad => exact h
theorem pstA {c : Cn} {s : St} {Q : List V → Hp → Prop} : Pst c K s (fun Hf H z => PostA c K s Hf H Q z) where
  bad := fun _ _ h => h
  exc := fun _ _ _ h => h
  mono := fun Hf H Hf' H' z x h => by
    cases z with
    | ok r => exact fun v Hf2 H2 y q => h v Hf2 H2 (x.trans y) q
    | exc e => exact PostX.mono x h
    | bad => exact h
def ArgR (K : PySem.W.Frag) (H0 Hf H : Hp) : R → V → Prop
  | .nw o, v => Rep K Hf (er o) v
  | .vw o, v => RepV K Hf H o v
  | .bw o, v => RepV K Hf H0 o v
theorem ArgR.a {r : R} {v : V} (s0 : Sm H0 H) (h : ArgR K H0 Hf H r v) : RepV K Hf H r.a v := by
  cases r with
  | nw o => exact h
  | vw o => exact h
  | bw o => exact RepV.mono (Same.refl _) s0 o v h
theorem ArgR.mono {r : R} {v : V} (f : Same Hf Hf') (e : Sm H H') (h : ArgR K H0 Hf H r v) : ArgR K H0 Hf' H' r v := by
  cases r with
  | nw o => exact Rep.mono f _ _ h
  | vw o => exact RepV.mono f e o v h
  | bw o => exact RepV.mono f (Sm.refl _) o v h
theorem ResR.argR {r : R} {v : V} {L : List Addr} (h : ResR K H0 Hf' H' r v L) (n : Nw H Hf' H' L) : ArgR K H0 (addF Hf' H' L) H' r v := by
  cases r with
  | nw o => exact RepO.frozen _ (addF_nw n) o v L (fun a ha => addF_in ha) h
  | vw o => exact RepV.mono (addF_nw n) (Sm.refl _) o v h.1
  | bw o => exact RepV.mono (addF_nw n) (Sm.refl _) o v h.1
variable {c : Cn} {t : TE} {f : FE} {r : Env} {s : St} {L : List Addr} {tt : TT} {ft : Env → Res Bool} {ta : TA} {fa : Env → Res (List O)}
theorem SoE.run (h : SoE c K t f) (sr : c.SR K r s Hf H L) {β : Type} {post : Hp → Hp → Res β → Prop} (P : Pst c K s post) {k : R → Res β} (hp : post Hf H ((f r).bind k)) {Q : VK}
    (hq : ∀ x v Hf1 H1, Ext Hf H Hf1 H1 → c.SR K r s Hf1 H1 L → ArgR K c.H0 Hf1 H1 x v → post Hf1 H1 (k x) → Q v H1) : t s H Q := by
  refine h r s Hf H L sr Q ?_
  cases e : f r with
  | bad => rw [e] at hp; exact absurd hp (P.bad _ _)
  | exc e' => rw [e] at hp; exact P.exc _ _ _ hp
  | ok x =>
    rw [e] at hp
    intro v Hf1 H1 L1 x1 q n
    have x2 := x1.add n q.nq
    exact hq x v _ H1 x2 (sr.mono x2) (q.argR n) (P.mono _ _ _ _ _ x2 hp)
theorem SoT.run (h : SoT c K tt ft) (sr : c.SR K r s Hf H L) {β : Type} {post : Hp → Hp → Res β → Prop} (P : Pst c K s post) {k : Bool → Res β} (hp : post Hf H ((ft r).bind k)) {Q : Bool → Hp → Prop}
    (hq : ∀ b Hf1 H1, Ext Hf H Hf1 H1 → c.SR K r s Hf1 H1 L → post Hf1 H1 (k b) → Q b H1) : tt s H Q := by
  refine h r s Hf H L sr Q ?_
  cases e : ft r with
  | bad => rw [e] at hp; exact absurd hp (P.bad _ _)
  | exc e' => rw [e] at hp; exact P.exc _ _ _ hp
  | ok x =>
    rw [e] at hp
    intro Hf1 H1 x1
    exact hq x Hf1 H1 x1 (sr.mono x1) (P.mono _ _ _ _ _ x1 hp)
theorem SoA.run (h : SoA c K ta fa) (sr : c.SR K r s Hf H L) {β : Type} {post : Hp → Hp → Res β → Prop} (P : Pst c K s post) {k : List O → Res β} (hp : post Hf H ((fa r).bind k)) {Q : List V → Hp → Prop}
    (hq : ∀ os vs Hf1 H1, Ext Hf H Hf1 H1 → c.SR K r s Hf1 H1 L → RepVs K Hf1 H1 os vs → post Hf1 H1 (k os) → Q vs H1) : ta s H Q := by
  refine h r s Hf H L sr Q ?_
  cases e : fa r with
  | bad => rw [e] at hp; exact absurd hp (P.bad _ _)
  | exc e' => rw [e] at hp; exact P.exc _ _ _ hp
  | ok x =>
    rw [e] at hp
    intro v Hf1 H1 x1 q
    exact hq x v Hf1 H1 x1 (sr.mono x1) q (P.mono _ _ _ _ _ x1 hp)
theorem SR.same0 (sr : c.SR K r s Hf H L) : Sm c.H0 H := sr.ext.same
theorem postE_fz {d : D} {Q : VK} {v : V} (sub : Same Hf H) (h : PostE c K s Hf H Q (.ok (.nw (.fz d)))) (hr : Rep K Hf d v) : Q v H :=
  h v Hf H [] (Ext.refl sub) ⟨hr, rfl⟩ ⟨List.nodup_nil, fun _ h => nomatch h⟩
theorem Ext.new {p : Addr} {o : HO} (sub : Same Hf H) (hp : H p = none) : Ext Hf H Hf (upd H p o) :=
  ⟨Same.sm fun a u e => by rw [upd_ne (ne_of_none e hp)]; exact e, Same.refl _, fun a u e => by rw [upd_ne (ne_of_none (sub a u e) hp)]; exact sub a u e, fun _ _ h => h, fun h => h.new hp⟩
theorem sub_none (sub : Same Hf H) {p : Addr} (hp : H p = none) : Hf p = none := sub.free hp
def allFz : List O → Bool
  | [] => true
  | .fz _ :: r => allFz r
  | _ :: _ => false
theorem repVs_O : ∀ {os : List O} {vs : List V}, allFz os = true → RepVs K Hf H os vs → RepOs K Hf H' os vs []
  | [], _, _, h => ⟨h, rfl⟩
  | .fz d :: os, _, e, h => by
    obtain ⟨v, r, e1, h1, h2⟩ := h
    exact ⟨v, r, [], [], e1, rfl, ⟨h1, rfl⟩, repVs_O (by exact e) h2⟩
  | .ls _ :: _, _, e, _ => by cases e
  | .tp _ :: _, _, e, _ => by cases e
  | .ob _ _ _ :: _, _, e, _ => by cases e
  | .dt _ _ :: _, _, e, _ => by cases e
  | .dk _ _ :: _, _, e, _ => by cases e
theorem postE_ls {os : List O} {vs : List V} {Q : VK} {p : Addr} (sub : Same Hf H) (h : PostE c K s Hf H Q (.ok (.nw (.ls os)))) (ha : allFz os = true) (hr : RepVs K Hf H os vs) (hp : H p = none) : Q (.ref p) (upd H p (.lst vs)) :=
  h (.ref p) Hf _ [p] (Ext.new sub hp) ⟨p, vs, [], rfl, upd_same, repVs_O ha hr, rfl⟩ ⟨by simp, fun a ha => by
    have e : a = p := by simpa using ha
    subst e
    exact ⟨hp, sub_none sub hp, by rw [upd_same]; simp⟩⟩
theorem postE_tup {ds : List D} {vs : List V} {Q : VK} {p : Addr} (sub : Same Hf H) (h : PostE c K s Hf H Q (.ok (.nw (.fz (.tup ds))))) (hr : Reps K Hf ds vs) (hp : H p = none) : Q (.ref p) (upd H p (.tup vs)) := by
  have sub2 : Same (upd Hf p (.tup vs)) (upd H p (.tup vs)) := fun a u e => by
    by_cases ha : a = p
    · subst ha; rw [upd_same] at e ⊢; exact e
    · rw [upd_ne ha] at e ⊢; exact sub a u e
  have x : Ext Hf H (upd Hf p (.tup vs)) (upd H p (.tup vs)) := ⟨Same.sm fun a u e => by rw [upd_ne (ne_of_none e hp)]; exact e, fun a u e => by rw [upd_ne (ne_of_none e (sub_none sub hp))]; exact e, sub2, fun a h1 h2 => by
    by_cases ha : a = p
    · subst ha; exact absurd hp h1
    · rw [upd_ne ha] at h2; exact h2, fun h => h.fz hp (fun k => by obtain ⟨φ, z⟩ := isKn_ext k; cases φ <;> cases z) (fun _ _ _ z => nomatch z) (sub_none sub hp)⟩
  exact h (.ref p) _ _ [] x ⟨⟨p, vs, rfl, upd_same, Reps.mono x.fsame ds vs hr⟩, rfl⟩ ⟨List.nodup_nil, fun _ h => nomatch h⟩
end
end DL
namespace DL
open PySem L2
variable {c : Cn} {X : Cx} {a b e : Expr} {f g fa fb : FE} {pos : Pos}
def eVar (i : Nat) : FE := fun r => match r[i]? with
  | some (.vl w o) => .ok (see w o)
  | some (.tq k) => .ok (.vw (kO k))
  | some (.lt _ o) => .ok (see false o)
  | _ => .bad
def eC (d : D) : FE := fun _ => .ok (.nw (.fz d))
theorem de_var {i : Nat} (h : PE X e (tVar i)) : DE c X e (eVar i) := by
  refine ⟨tVar i, h, fun r s Hf H L sr Q q => ?_⟩
  cases er1 : r[i]? with
  | none => simp only [eVar, er1] at q; exact q.elim
  | some x =>
    cases x with
    | un => simp only [eVar, er1] at q; exact q.elim
    | me _ _ => simp only [eVar, er1] at q; exact q.elim
    | lt a o =>
      simp only [eVar, er1] at q
      obtain ⟨y, L1, M, L2, h1, h2, h3, _⟩ := sr.env.at er1
      cases y with
      | none => exact h3.elim
      | some v =>
        refine ⟨v, h1, q v Hf H [] (Ext.refl sr.sub) ?_ ⟨List.nodup_nil, fun _ h => nomatch h⟩⟩
        have h4 := h3.2.2
        cases o with
        | fz d => exact ⟨h4, rfl⟩
        | ls os => exact ⟨h4, rfl⟩
        | tp os => exact ⟨h4, rfl⟩
        | ob _ _ _ => exact ⟨h4, rfl⟩
        | dt _ _ => exact ⟨h4, rfl⟩
        | dk _ _ => exact ⟨h4, rfl⟩
        | gh _ _ _ => exact ⟨h4, rfl⟩
    | fa _ => simp only [eVar, er1] at q; exact q.elim
    | tq k =>
      simp only [eVar, er1] at q
      obtain ⟨y, L1, M, L2, h1, h2, h3, _⟩ := sr.env.at er1
      cases y with
      | none => exact h3.elim
      | some v =>
        obtain ⟨_, qa, ev, hq⟩ := h3
        subst ev
        exact ⟨_, h1, q _ Hf H [] (Ext.refl sr.sub) ⟨kO_rep hq, rfl⟩ ⟨List.nodup_nil, fun _ h => nomatch h⟩⟩
    | vl w o =>
      simp only [eVar, er1] at q
      obtain ⟨y, L1, M, L2, h1, h2, h3, _⟩ := sr.env.at er1
      cases y with
      | none => cases w <;> exact h3.elim
      | some v =>
        refine ⟨v, h1, q v Hf H [] (Ext.refl sr.sub) ?_ ⟨List.nodup_nil, fun _ h => nomatch h⟩⟩
        cases w with
        | true =>
          have h4 := RepO.view o v M h3
          cases o with
          | fz d => exact ⟨h4, rfl⟩
          | ls os => exact ⟨h4, rfl⟩
          | tp os => exact ⟨h4, rfl⟩
          | ob _ _ _ => exact ⟨h4, rfl⟩
          | dt _ _ => exact ⟨h4, rfl⟩
          | dk _ _ => exact ⟨h4, rfl⟩
          | gh _ _ _ => exact ⟨h4, rfl⟩
        | false =>
          obtain ⟨h4, _⟩ := h3
          cases o with
          | fz d => exact ⟨h4, rfl⟩
          | ls os => exact ⟨h4, rfl⟩
          | tp os => exact ⟨h4, rfl⟩
          | ob _ _ _ => exact ⟨h4, rfl⟩
          | dt _ _ => exact ⟨h4, rfl⟩
          | dk _ _ => exact ⟨h4, rfl⟩
          | gh _ _ _ => exact ⟨h4, rfl⟩
theorem de_c {v : V} {d : D} (h : PE X e (tC v)) (hr : ∀ H, Rep X.K H d v) : DE c X e (eC d) :=
  ⟨tC v, h, fun r s Hf H L sr Q q => postE_fz sr.sub q (hr Hf)⟩
theorem de_int {i j} : DE c X (.Constant (.int i) j pos) (eC (.int i)) := de_c pe_int fun _ => rfl
theorem de_bl {b j} : DE c X (.Constant (.bool b) j pos) (eC (.bl b)) := de_c pe_bl fun _ => rfl
def PureR (K : PySem.W.Frag) (rr : R2) (g : O → O → Res R) : Prop := ∀ (c : Cn) (s : St) (Hf H : Hp) (x y : V) (a b : O) (Q : VK), Same Hf H → RepV K Hf H a x → RepV K Hf H b y → PostE c K s Hf H Q (g a b) → rr x y H Q
def eOp (g : O → O → Res R) (fa fb : FE) : FE := fun r => (fa r).bind fun x => (fb r).bind fun y => g x.a y.a
theorem so_op {K : PySem.W.Frag} {rr : R2} {g : O → O → Res R} {ta tb : TE} (hg : PureR K rr g) (ha : SoE c K ta fa) (hb : SoE c K tb fb) : SoE c K (tOp rr ta tb) (eOp g fa fb) := fun r s Hf H L sr Q q => by
  refine ha.run sr pstE q fun x v Hf1 H1 x1 sr1 a1 q1 => ?_
  refine hb.run sr1 pstE q1 fun y w Hf2 H2 x2 sr2 a2 q2 => ?_
  exact hg c s Hf2 H2 v w _ _ Q sr2.sub ((a1.mono x2.fsame x2.same).a sr2.same0) (a2.a sr2.same0) q2
theorem de_op {op : Operator} {rr : R2} {g : O → O → Res R} (ho : OpR X (binaryOp op) rr) (hg : PureR X.K rr g) (ha : DE c X a fa) (hb : DE c X b fb) : DE c X (.BinOp a op b pos) (eOp g fa fb) := by
  obtain ⟨ta, pa, sa⟩ := ha.ex
  obtain ⟨tb, pb, sb⟩ := hb.ex
  exact ⟨tOp rr ta tb, pe_op ho pa pb, so_op hg sa sb⟩
theorem de_cmp {op : CmpOp} {rr : R2} {g : O → O → Res R} (ho : OpR X (compareOp op) rr) (hg : PureR X.K rr g) (ha : DE c X a fa) (hb : DE c X b fb) (hm : behindInMarks op b = false) : DE c X (.Compare a [op] [b] pos) (eOp g fa fb) := by
  obtain ⟨ta, pa, sa⟩ := ha.ex
  obtain ⟨tb, pb, sb⟩ := hb.ex
  exact ⟨tOp rr ta tb, pe_cmpR ho pa pb hm, so_op hg sa sb⟩
def toB (x : R) : Res Bool := match x.a with
  | .fz (.bl b) => .ok b
  | _ => .bad
def tOf (f : FE) : Env → Res Bool := fun r => (f r).bind toB
theorem so_test {K : PySem.W.Frag} {t : TE} (h : SoE c K t f) : SoT c K (tTest t) (tOf f) := fun r s Hf H L sr Q q => by
  refine h.run sr pstT q fun x v Hf1 H1 x1 sr1 a1 q1 => ?_
  have a2 := a1.a sr1.same0
  cases ex : x.a with
  | ls os => simp only [toB, ex] at q1; exact q1.elim
  | tp os => simp only [toB, ex] at q1; exact q1.elim
  | ob _ _ _ => simp only [toB, ex] at q1; exact q1.elim
  | dt _ _ => simp only [toB, ex] at q1; exact q1.elim
  | dk _ _ => simp only [toB, ex] at q1; exact q1.elim
  | gh _ _ _ => simp only [toB, ex] at q1; exact q1.elim
  | fz d =>
    rw [ex] at a2
    cases d with
    | bl b =>
      simp only [toB, ex] at q1
      exact ⟨b, a2, q1 Hf1 H1 (Ext.refl sr1.sub)⟩
    | non => simp only [toB, ex] at q1; exact q1.elim
    | int i => simp only [toB, ex] at q1; exact q1.elim
    | str i => simp only [toB, ex] at q1; exact q1.elim
    | ex _ => simp only [toB, ex] at q1; exact q1.elim
    | scr _ => simp only [toB, ex] at q1; exact q1.elim
    | lst _ => simp only [toB, ex] at q1; exact q1.elim
    | tup _ => simp only [toB, ex] at q1; exact q1.elim
    | obj _ _ _ => simp only [toB, ex] at q1; exact q1.elim
    | row _ _ => simp only [toB, ex] at q1; exact q1.elim
    | dct _ _ => simp only [toB, ex] at q1; exact q1.elim
    | dck _ _ => simp only [toB, ex] at q1; exact q1.elim
theorem dt_cmp {op : CmpOp} {rr : R2} {g : O → O → Res R} (ho : OpR X (compareOp op) rr) (hg : PureR X.K rr g) (ha : DE c X a fa) (hb : DE c X b fb) (hm : behindInMarks op b = false) : DT c X (.Compare a [op] [b] pos) (tOf (eOp g fa fb)) := by
  obtain ⟨ta, pa, sa⟩ := ha.ex
  obtain ⟨tb, pb, sb⟩ := hb.ex
  exact ⟨tTest (tOp rr ta tb), pt_cmpR ho pa pb hm, so_test (so_op hg sa sb)⟩
theorem dt_val (h : DE c X e f) (he : ∀ whole, isTrue e X.env whole = (do let v ← whole; standAt e.pos; holding [v] (truthy v)) := by intro _; rfl) : DT c X e (tOf f) := by
  obtain ⟨t, p, s⟩ := h.ex
  exact ⟨tB t, pt_val p he, so_test s⟩
def tAndD (f g : Env → Res Bool) : Env → Res Bool := fun r => (f r).bind fun b => if b then g r else .ok false
def tOrD (f g : Env → Res Bool) : Env → Res Bool := fun r => (f r).bind fun b => if b then .ok true else g r
def tNotD (f : Env → Res Bool) : Env → Res Bool := fun r => (f r).bind fun b => .ok (!b)
variable {f1 f2 : Env → Res Bool} {rest : List Expr}
theorem dw_and1 (h : DT c X a f1) : DW c X (.BoolOp .And [a] pos) f1 := let ⟨t, p, s⟩ := h.ex; ⟨t, pw_and1 p, s⟩
theorem dw_or1 (h : DT c X a f1) : DW c X (.BoolOp .Or [a] pos) f1 := let ⟨t, p, s⟩ := h.ex; ⟨t, pw_or1 p, s⟩
theorem dw_and (h1 : DT c X a f1) (h2 : DW c X (.BoolOp .And (b :: rest) pos) f2) : DW c X (.BoolOp .And (a :: b :: rest) pos) (tAndD f1 f2) := by
  obtain ⟨t, p, s⟩ := h1.ex
  obtain ⟨u, p2, s2⟩ := h2.ex
  refine ⟨tAnd t u, pw_and p p2, fun r s' Hf H L sr Q q => ?_⟩
  refine s.run sr pstT q fun b Hf1 H1 x1 sr1 q1 => ?_
  cases b with
  | true => exact s2 r s' Hf1 H1 L sr1 Q q1
  | false => exact q1 Hf1 H1 (Ext.refl sr1.sub)
theorem dw_or (h1 : DT c X a f1) (h2 : DW c X (.BoolOp .Or (b :: rest) pos) f2) : DW c X (.BoolOp .Or (a :: b :: rest) pos) (tOrD f1 f2) := by
  obtain ⟨t, p, s⟩ := h1.ex
  obtain ⟨u, p2, s2⟩ := h2.ex
  refine ⟨tOr t u, pw_or p p2, fun r s' Hf H L sr Q q => ?_⟩
  refine s.run sr pstT q fun b Hf1 H1 x1 sr1 q1 => ?_
  cases b with
  | true => exact q1 Hf1 H1 (Ext.refl sr1.sub)
  | false => exact s2 r s' Hf1 H1 L sr1 Q q1
theorem dt_w (h : DW c X e f1) : DT c X e f1 := let ⟨t, p, s⟩ := h.ex; ⟨t, p.pt, s⟩
theorem dt_not (h : DT c X a f1) : DT c X (.UnaryOp .Not a pos) (tNotD f1) := by
  obtain ⟨t, p, s⟩ := h.ex
  refine ⟨tNot t, pt_not p, fun r s' Hf H L sr Q q => ?_⟩
  exact s.run sr pstT q fun b Hf1 H1 x1 sr1 q1 => q1 Hf1 H1 (Ext.refl sr1.sub)
def onB {β : Type} (o : O) (k : Bool → Res β) : Res β := match o with
  | .fz (.bl b) => k b
  | _ => .bad
def eAnd (f g : FE) : FE := fun r => (f r).bind fun x => onB x.a fun b => if b then g r else .ok (.nw (.fz (.bl false)))
def eNot (f : FE) : FE := fun r => (f r).bind fun x => onB x.a fun b => .ok (.nw (.fz (.bl (!b))))
theorem de_one {op} (h : DE c X a f) : DE c X (.BoolOp op [a] pos) f := let ⟨t, p, s⟩ := h.ex; ⟨t, pe_one p, s⟩
theorem bl_of {K : PySem.W.Frag} {Hf H : Hp} {o : O} {v : V} {c : Cn} {s : St} {Q : VK} {k : Bool → Res R} (h : RepV K Hf H o v)
    (q : PostE c K s Hf H Q (onB o k)) : ∃ b, v = .bl b ∧ PostE c K s Hf H Q (k b) := by
  cases o with
  | ls _ => exact q.elim
  | tp _ => exact q.elim
  | ob _ _ _ => exact q.elim
  | dt _ _ => exact q.elim
  | dk _ _ => exact q.elim
  | gh _ _ _ => exact q.elim
  | fz d =>
    cases d with
    | bl b => exact ⟨b, h, q⟩
    | non => exact q.elim
    | int i => exact q.elim
    | str i => exact q.elim
    | ex _ => exact q.elim
    | scr _ => exact q.elim
    | lst _ => exact q.elim
    | tup _ => exact q.elim
    | obj _ _ _ => exact q.elim
    | row _ _ => exact q.elim
    | dct _ _ => exact q.elim
    | dck _ _ => exact q.elim
theorem de_and (h1 : DE c X a f) (h2 : DE c X (.BoolOp .And (b :: rest) pos) g) : DE c X (.BoolOp .And (a :: b :: rest) pos) (eAnd f g) := by
  obtain ⟨t, p, s⟩ := h1.ex
  obtain ⟨u, p2, s2⟩ := h2.ex
  refine ⟨tAndV t u, pe_and p p2, fun r s' Hf H L sr Q q => ?_⟩
  refine s.run sr pstE q fun x v Hf1 H1 x1 sr1 a1 q1 => ?_
  obtain ⟨b, e, q2⟩ := bl_of (a1.a sr1.same0) q1
  refine ⟨b, e, ?_⟩
  cases b with
  | true => exact s2 r s' Hf1 H1 L sr1 Q q2
  | false => exact postE_fz sr1.sub q2 rfl
theorem de_not (h1 : DE c X a f) : DE c X (.UnaryOp .Not a pos) (eNot f) := by
  obtain ⟨t, p, s⟩ := h1.ex
  refine ⟨tNotV t, pe_not p, fun r s' Hf H L sr Q q => ?_⟩
  refine s.run sr pstE q fun x v Hf1 H1 x1 sr1 a1 q1 => ?_
  obtain ⟨b, e, q2⟩ := bl_of (a1.a sr1.same0) q1
  exact ⟨b, e, postE_fz sr1.sub q2 rfl⟩
def fzR (d : D) : Res R := .ok (.nw (.fz d))
def gInt (C : Int → Int → Bool) (h : Int → Int → D) : O → O → Res R
  | .fz (.int i), .fz (.int j) => if C i j then fzR (h i j) else .bad
  | _, _ => .bad
theorem int2 {K : PySem.W.Frag} {Hf H : Hp} {a b : O} {x y : V} {s : St} {Q : VK} {C : Int → Int → Bool} {h : Int → Int → D} (ha : RepV K Hf H a x) (hb : RepV K Hf H b y) (q : PostE c K s Hf H Q (gInt C h a b)) :
    ∃ i j, x = .int i ∧ y = .int j ∧ C i j = true ∧ PostE c K s Hf H Q (fzR (h i j)) := by
  cases a with
  | ls _ => exact q.elim
  | tp _ => exact q.elim
  | ob _ _ _ => exact q.elim
  | dt _ _ => exact q.elim
  | dk _ _ => exact q.elim
  | gh _ _ _ => exact q.elim
  | fz d =>
    cases d with
    | int i =>
      cases b with
      | ls _ => exact q.elim
      | tp _ => exact q.elim
      | ob _ _ _ => exact q.elim
      | dt _ _ => exact q.elim
      | dk _ _ => exact q.elim
      | gh _ _ _ => exact q.elim
      | fz d =>
        cases d with
        | int j =>
          refine ⟨i, j, ha, hb, ?_⟩
          simp only [gInt] at q
          by_cases hc : C i j = true
          · rw [if_pos hc] at q; exact ⟨hc, q⟩
          · rw [if_neg hc] at q; exact q.elim
        | _ => exact q.elim
    | _ => exact q.elim
theorem pure_I0 {K : PySem.W.Frag} {g : Int → Int → V} {h : Int → Int → D} (hh : ∀ i j H, Rep K H (h i j) (g i j)) : PureR K (rI0 g) (gInt (fun _ _ => true) h) := fun c s Hf H x y a b Q sub ha hb q => by
  obtain ⟨i, j, e1, e2, _, q⟩ := int2 ha hb q
  exact ⟨i, j, e1, e2, postE_fz sub q (hh i j Hf)⟩
theorem pure_I {K : PySem.W.Frag} {C : Int → Int → Bool} {C' : Int → Int → Prop} {g : Int → Int → V} {h : Int → Int → D} (hC : ∀ i j, C i j = true → C' i j) (hh : ∀ i j H, Rep K H (h i j) (g i j)) : PureR K (rI C' g) (gInt C h) := fun c s Hf H x y a b Q sub ha hb q => by
  obtain ⟨i, j, e1, e2, hc, q⟩ := int2 ha hb q
  exact ⟨i, j, e1, e2, hC i j hc, postE_fz sub q (hh i j Hf)⟩
def yes2 : Int → Int → Bool := fun _ _ => true
def gAdd := gInt yes2 fun i j => .int (i + j)
def gSub := gInt yes2 fun i j => .int (i - j)
def CMulH (i j : Int) : Prop := i.natAbs.log2 + j.natAbs.log2 < 100000000
theorem bits_log (x : Int) : Builtin.Int.intBits x ≤ x.natAbs.log2 + 1 := by
  unfold Builtin.Int.intBits
  split <;> omega
theorem CMulH.ok {i j : Int} (h : CMulH i j) : CMulX i j := by
  have a := bits_log i
  have b := bits_log j
  unfold CMulH at h
  unfold CMulX
  omega
theorem op_mulH : OpR X (binaryOp .Mult) (rI CMulH fun i j => .int (i * j)) := opI fun _ _ _ _ _ _ _ hc q => PyProof.Rows.mul_int q hc.ok.ok
def mulOk (i j : Int) : Bool := decide (i.natAbs.log2 + j.natAbs.log2 < 100000000)
def gMul := gInt mulOk fun i j => .int (i * j)
def divOk (_ j : Int) : Bool := decide (j ≠ 0 ∧ j.natAbs.log2 < 9000)
def gDiv := gInt divOk fun i j => .int (i.fdiv j)
def modOk (_ j : Int) : Bool := decide (j ≠ 0)
def gMod := gInt modOk fun i j => .int (i.fmod j)
def powOk (i j : Int) : Bool := decide (0 ≤ j ∧ j ≤ 1000000 ∧ i.natAbs < 2 ^ 64)
def gPow := gInt powOk fun i j => .int (i ^ j.toNat)
def gLt := gInt yes2 fun i j => .bl (decide (i < j))
def gLe := gInt yes2 fun i j => .bl (decide (i ≤ j))
def gGt := gInt yes2 fun i j => .bl (decide (j < i))
def gGe := gInt yes2 fun i j => .bl (decide (j ≤ i))
theorem op_fdivD : OpR X (binaryOp .FloorDiv) (rI (fun _ j => j ≠ 0 ∧ j.natAbs.log2 < 9000) fun i j => .int (i.fdiv j)) := opI fun _ _ _ _ _ _ _ hc q => PyProof.Rows.floordiv_int hc.1 q (.inl (PyProof.noPylong_of_log2 hc.2))
theorem de_sub (ha : DE c X a fa) (hb : DE c X b fb) : DE c X (.BinOp a .Sub b pos) (eOp gSub fa fb) := de_op op_sub (pure_I0 fun _ _ _ => rfl) ha hb
theorem de_fdiv (ha : DE c X a fa) (hb : DE c X b fb) : DE c X (.BinOp a .FloorDiv b pos) (eOp gDiv fa fb) := de_op op_fdivD (pure_I (fun i j h => of_decide_eq_true h) fun _ _ _ => rfl) ha hb
theorem de_mod (ha : DE c X a fa) (hb : DE c X b fb) : DE c X (.BinOp a .Mod b pos) (eOp gMod fa fb) := de_op op_modN (pure_I (fun i j h => of_decide_eq_true h) fun _ _ _ => rfl) ha hb
theorem de_pow (ha : DE c X a fa) (hb : DE c X b fb) : DE c X (.BinOp a .Pow b pos) (eOp gPow fa fb) := de_op op_pow (pure_I (fun i j h => by unfold CPow; exact of_decide_eq_true h) fun _ _ _ => rfl) ha hb
theorem pu_lt : PureR X.K (rI0 fun i j => .bl (decide (i < j))) gLt := pure_I0 fun _ _ _ => rfl
theorem pu_gt : PureR X.K (rI0 fun i j => .bl (decide (j < i))) gGt := pure_I0 fun _ _ _ => rfl
theorem dt_lt (ha : DE c X a fa) (hb : DE c X b fb) : DT c X (.Compare a [.Lt] [b] pos) (tOf (eOp gLt fa fb)) := dt_cmp op_lt pu_lt ha hb (nomark _)
theorem dt_gt (ha : DE c X a fa) (hb : DE c X b fb) : DT c X (.Compare a [.Gt] [b] pos) (tOf (eOp gGt fa fb)) := dt_cmp op_gt pu_gt ha hb (nomark _)
def eUn (g : O → Res R) (fa : FE) : FE := fun r => (fa r).bind fun x => g x.a
def gNeg : O → Res R
  | .fz (.int i) => fzR (.int (-i))
  | _ => .bad
theorem de_neg (ha : DE c X a fa) : DE c X (.UnaryOp .USub a pos) (eUn gNeg fa) := by
  obtain ⟨t, p, s⟩ := ha.ex
  refine ⟨tUn (rU fun i => .int (-i)) t, pe_un un_neg p, fun r s' Hf H L sr Q q => ?_⟩
  refine s.run sr pstE q fun x v Hf1 H1 x1 sr1 a1 q1 => ?_
  have a2 := a1.a sr1.same0
  revert q1 a2
  cases x.a with
  | ls _ => exact fun q _ => q.elim
  | tp _ => exact fun q _ => q.elim
  | ob _ _ _ => exact fun q _ => q.elim
  | dt _ _ => exact fun q _ => q.elim
  | dk _ _ => exact fun q _ => q.elim
  | gh _ _ _ => exact fun q _ => q.elim
  | fz d => cases d with
    | int i => exact fun q a2 => ⟨i, a2, postE_fz sr1.sub q rfl⟩
    | _ => exact fun q _ => q.elim
end DL
namespace DL
open PySem L2
variable {c : Cn} {X : Cx} {a b e : Expr} {es : List Expr} {f g fa fb : FE} {pos : Pos} {fs : Env → Res (List O)} {K : PySem.W.Frag} {H0 H H' Hf Hf' : Hp}
def aNil : Env → Res (List O) := fun _ => .ok []
def aCons (f : FE) (fs : Env → Res (List O)) : Env → Res (List O) := fun r => (f r).bind fun x => (fs r).bind fun xs => .ok (x.a :: xs)
theorem da_nil : DA c X [] aNil := ⟨tNil, pa_nil, fun r s Hf H L sr Q q => q [] Hf H (Ext.refl sr.sub) rfl⟩
theorem da_cons (h : DE c X e f) (hs : DA c X es fs) (hst : starEach (e :: es) X.env = (false, eval e X.env) :: starEach es X.env := by rfl) : DA c X (e :: es) (aCons f fs) := by
  obtain ⟨t, p, s⟩ := h.ex
  obtain ⟨ts, ps, ss⟩ := hs.ex
  refine ⟨tCons t ts, pa_cons p ps hst, fun r s' Hf H L sr Q q => ?_⟩
  refine s.run sr pstA q fun x v Hf1 H1 x1 sr1 a1 q1 => ?_
  refine ss.run sr1 pstA q1 fun os vs Hf2 H2 x2 sr2 a2 q2 => ?_
  exact q2 _ Hf2 H2 (Ext.refl sr2.sub) ⟨v, vs, rfl, (a1.mono x2.fsame x2.same).a sr2.same0, a2⟩
def eLst (fs : Env → Res (List O)) : FE := fun r => (fs r).bind fun os => if allFz os && decide (os.length ≤ 1000) then .ok (.nw (.ls os)) else .bad
theorem de_lst (h : DA c X es fs) : DE c X (.List es pos) (eLst fs) := by
  obtain ⟨t, p, s⟩ := h.ex
  refine ⟨tLst t, pe_lst p, fun r s' Hf H L sr Q q => ?_⟩
  refine s.run sr pstE q fun os vs Hf1 H1 x1 sr1 a1 q1 => ?_
  by_cases hc : (allFz os && decide (os.length ≤ 1000)) = true
  · rw [if_pos hc] at q1
    simp only [Bool.and_eq_true, decide_eq_true_eq] at hc
    exact ⟨by rw [RepVs.length a1]; exact Nat.le_trans hc.2 (by decide), fun p hp => postE_ls sr1.sub q1 hc.1 a1 hp⟩
  · rw [if_neg hc] at q1; exact q1.elim
def toDs : List O → Option (List D)
  | [] => some []
  | .fz d :: r => (toDs r).map (d :: ·)
  | _ :: _ => none
theorem toDs_rep : ∀ {os : List O} {ds : List D} {vs : List V}, toDs os = some ds → RepVs K Hf H os vs → Reps K Hf ds vs
  | [], ds, vs, e, h => by
    have e' : ([] : List D) = ds := Option.some.inj e
    subst e'; exact h
  | .fz d :: os, ds, vs, e, h => by
    obtain ⟨v, r, e1, h1, h2⟩ := h
    cases e2 : toDs os with
    | none => simp [toDs, e2] at e
    | some r' =>
      have e' : d :: r' = ds := by simpa [toDs, e2] using e
      subst e'
      exact ⟨v, r, e1, h1, toDs_rep e2 h2⟩
  | .ls _ :: _, _, _, e, _ => by cases e
  | .tp _ :: _, _, _, e, _ => by cases e
  | .ob _ _ _ :: _, _, _, e, _ => by cases e
  | .dt _ _ :: _, _, _, e, _ => by cases e
  | .dk _ _ :: _, _, _, e, _ => by cases e
def tupR (os : List O) : Res R := match toDs os with
  | some ds => if ds.length ≤ 1000 then .ok (.nw (.fz (.tup ds))) else .bad
  | none => .bad
def eTup (fs : Env → Res (List O)) : FE := fun r => (fs r).bind tupR
theorem de_tup {k} (h : DA c X es fs) : DE c X (.Tuple es k pos) (eTup fs) := by
  obtain ⟨t, p, s⟩ := h.ex
  refine ⟨tTup t, pe_tup p, fun r s' Hf H L sr Q q => ?_⟩
  refine s.run sr pstE q fun os vs Hf1 H1 x1 sr1 a1 q1 => ?_
  cases e : toDs os with
  | none => simp only [tupR, e] at q1; exact q1.elim
  | some ds =>
    simp only [tupR, e] at q1
    have a2 := toDs_rep e a1
    by_cases hc : ds.length ≤ 1000
    · rw [if_pos hc] at q1
      exact ⟨by rw [Reps.length a2]; exact Nat.le_trans hc (by decide), fun p hp => postE_tup sr1.sub q1 a2 hp⟩
    · rw [if_neg hc] at q1; exact q1.elim
def PureC (K : PySem.W.Frag) (rr : List V → Hp → VK → Prop) (g : List O → Res R) : Prop := ∀ (c : Cn) (s : St) (Hf H : Hp) (vs : List V) (os : List O) (Q : VK), Same Hf H → RepVs K Hf H os vs → PostE c K s Hf H Q (g os) → rr vs H Q
def eB (g : List O → Res R) (fs : Env → Res (List O)) : FE := fun r => (fs r).bind g
theorem so_B {rr : List V → Hp → VK → Prop} {g : List O → Res R} {t : TA} (hg : PureC K rr g) (h : SoA c K t fs) : SoE c K (tCB rr t) (eB g fs) := fun r s Hf H L sr Q q => by
  refine h.run sr pstE q fun os vs Hf1 H1 x1 sr1 a1 q1 => ?_
  exact hg c s Hf1 H1 vs os Q sr1.sub a1 q1
section
variable {x : Str} {p : Pos} {id : String} {rr : List V → Hp → VK → Prop} {gB : List O → Res R}
theorem de_B (hc : CallR X (.builtin id) rr) (hp : PureC X.K rr gB) (hg : Gl X x) (hm : X.mg x = none) (hv : bootBuiltins x = some (.builtin id)) (h : DA c X (e :: es) fs) (hn : x ≠ "__name__" := by decide) (hdb : (x == ("__debug__" : Str)) = false := by decide)
    (he : starEach (e :: es) X.env = (false, eval e X.env) :: starEach es X.env := by rfl) (hpl : (backTo pos (starEach es X.env)).any (·.1) = false := by rfl) : DE c X (.Call (.Name x p) (e :: es) [] pos) (eB gB fs) := by
  obtain ⟨t, pa, s⟩ := h.ex
  exact ⟨tCB rr t, pe_callB hc hg hm hv pa hn hdb he hpl, so_B hp s⟩
theorem de_Ty (hc : CallR X (.type id) rr) (hp : PureC X.K rr gB) (hg : Gl X x) (hm : X.mg x = none) (hv : bootBuiltins x = some (.type id)) (h : DA c X (e :: es) fs) (hn : x ≠ "__name__" := by decide) (hdb : (x == ("__debug__" : Str)) = false := by decide)
    (he : starEach (e :: es) X.env = (false, eval e X.env) :: starEach es X.env := by rfl) (hpl : (backTo pos (starEach es X.env)).any (·.1) = false := by rfl) : DE c X (.Call (.Name x p) (e :: es) [] pos) (eB gB fs) := by
  obtain ⟨t, pa, s⟩ := h.ex
  exact ⟨tCB rr t, pe_callTy hc hg hm hv pa hn hdb he hpl, so_B hp s⟩
end
def spD (K : PySem.W.Frag) (n : Nat) (F : List O → Res O) : Sp := fun vs H Q E => ∃ Hf os, Same Hf H ∧ Rows (tK K) Hf H ∧ RepVs K Hf H os vs ∧ os.length = n ∧ match F os with
  | .ok o => ∀ v Hf' H' L, Ext Hf H Hf' H' → RepO K Hf' H' o v L → Nw H Hf' H' L → Q v H'
  | .exc e => ∀ cls d Hf' H', Ext Hf H Hf' H' → EcR K e cls d Hf' → E cls d H'
  | .bad => False
structure Def (P : Program) (w : World) (K : PySem.W.Frag) (mg : Str → Option Value) (base : Heap) (x : Str) (k n : Nat) (F : List O → Res O) : Prop where
  ex : ∃ f fd ps, FnOk P w K mg base (L2.CX P w) k f fd ps (spD K n F) ∧ mg x = some (.ref f) ∧ PySem.W.keepIn K (.ref f) = true ∧ Binds K fd ps [] ∧ ps.length = n
structure Bk (c : Cn) (X : Cx) (k : Nat) : Prop where
  hr : Room k X.A
  tk : Takes X c.W
  po : PassesOwn (model X.prog X.w) X.A X.env X.xe
  calm : X.calm = true
def eCall (F : List O → Res O) (fs : Env → Res (List O)) : FE := fun r => (fs r).bind fun os => (F os).bind fun o => .ok (.nw o)
theorem de_call {x : Str} {p : Pos} {j k n : Nat} {F : List O → Res O} (G : Def X.prog X.w X.K X.mg X.base x j n F) (B : Bk c X k) (hj : j ≤ k) (hg : Gl X x) (h : DA c X (e :: es) fs) (hl : (e :: es).length = n)
    (hdb : (x == ("__debug__" : Str)) = false := by decide) (he : starEach (e :: es) X.env = (false, eval e X.env) :: starEach es X.env := by rfl) (hpl : (backTo pos (starEach es X.env)).any (·.1) = false := by rfl)
    (hlen : ∀ r os, fs r = .ok os → os.length = n) : DE c X (.Call (.Name x p) (e :: es) [] pos) (eCall F fs) := by
  obtain ⟨fa, fd, ps, Fo, hm, hk, hb, hn⟩ := G.ex
  obtain ⟨t, pa, s⟩ := h.ex
  refine ⟨tCallS (spD X.K n F) (WE c.W) t, pe_callS Fo (B.hr.mono hj) hg hm hk hb (fun σ => passAt B.tk σ) pa hdb he hpl, fun r s' Hf H L sr Q q => ?_⟩
  refine s r s' Hf H L sr _ ?_
  cases e0 : fs r with
  | bad => simp only [eCall, e0, Res.bind] at q; exact q.elim
  | exc e' => simp only [eCall, e0, Res.bind] at q; exact q
  | ok os =>
    simp only [eCall, e0, Res.bind] at q
    intro vs Hf1 H1 x1 a1
    refine ⟨Hf1, os, x1.sub, x1.rows sr.rows, a1, hlen r os e0, ?_⟩
    cases e1 : F os with
    | bad => rw [e1] at q; exact q.elim
    | exc e' =>
      rw [e1] at q
      exact fun cls d Hf2 H2 x2 h2 => q cls d Hf2 H2 (x1.trans x2) h2
    | ok o =>
      rw [e1] at q
      exact fun v Hf2 H2 L2 x2 h2 n2 => q v Hf2 H2 L2 (x1.trans x2) h2 (n2.mono x1.same)
def Ar (fs : Env → Res (List O)) (n : Nat) : Prop := ∀ r os, fs r = .ok os → os.length = n
theorem ar_nil : Ar aNil 0 := fun r os e => by cases e; rfl
theorem ar_cons {n : Nat} (h : Ar fs n) : Ar (aCons f fs) (n + 1) := fun r os e => by
  cases e1 : f r with
  | bad => simp [aCons, e1, Res.bind] at e
  | exc _ => simp [aCons, e1, Res.bind] at e
  | ok x =>
    cases e2 : fs r with
    | bad => simp [aCons, e1, e2, Res.bind] at e
    | exc _ => simp [aCons, e1, e2, Res.bind] at e
    | ok xs =>
      simp [aCons, e1, e2, Res.bind] at e
      subst e
      simp [h r xs e2]
def sSeq (f g : FS) : FS := fun r => match f r with
  | .nx r' => g r'
  | o => o
def sNil : FS := fun r => .nx r
variable {F G : FS} {st : Stmt} {sts : List Stmt}
theorem dss_nil : DSs c X [] sNil := ⟨tNext, pss_nil, fun r s Hf H L sr D q => q s Hf H L (Same.refl _) sr⟩
theorem so_seq {t u : TS} (h1 : SoS c K t F) (h2 : SoS c K u G) : SoS c K (tSeq t u) (sSeq F G) := fun r s Hf H L sr D q => by
  refine h1 r s Hf H L sr _ ?_
  cases e : F r with
  | nx r' =>
    simp only [sSeq, e] at q
    exact fun s1 Hf1 H1 L1 f1 sr1 => h2 r' s1 Hf1 H1 L1 sr1 D (q.mono f1)
  | bk r' => simp only [sSeq, e] at q; exact q
  | ct r' => simp only [sSeq, e] at q; exact q
  | ret o => simp only [sSeq, e] at q; exact q
  | exc e' r' => simp only [sSeq, e] at q; exact q
  | bad => simp only [sSeq, e] at q; exact q.elim
theorem dss_cons (h1 : DS c X st F) (h2 : DSs c X sts G) : DSs c X (st :: sts) (sSeq F G) := by
  obtain ⟨t, p, s⟩ := h1.ex
  obtain ⟨u, p2, s2⟩ := h2.ex
  exact ⟨tSeq t u, pss_cons p p2, so_seq s s2⟩
theorem dss_one (h1 : DS c X st F) : DSs c X [st] F := let ⟨t, p, s⟩ := h1.ex; ⟨t, pss_one p, s⟩
def sUse (f : FE) (k : R → Env → Out) : FS := fun r => match f r with
  | .ok x => k x r
  | .exc e => .exc e r
  | .bad => .bad
theorem SoE.use {t : TE} {r : Env} {s : St} {L : List Addr} (h : SoE c K t f) (sr : c.SR K r s Hf H L) {k : R → Env → Out} {D : Ends} (q : PostS c K Hf D (sUse f k r)) {Q : VK}
    (hq : ∀ x v Hf1 H1 L1, Ext Hf H Hf1 H1 → c.SR K r s Hf1 H1 L → ResR K c.H0 Hf1 H1 x v L1 → Nw H Hf1 H1 L1 → PostS c K Hf1 D (k x r) → Q v H1) : t s H Q := by
  refine h r s Hf H L sr Q ?_
  cases e : f r with
  | bad => simp only [sUse, e] at q; exact q.elim
  | exc e' =>
    simp only [sUse, e] at q
    exact fun cls d Hf1 H1 x1 h1 => q s cls d Hf1 H1 L x1.fsame (sr.mono x1) h1
  | ok x =>
    simp only [sUse, e] at q
    exact fun v Hf1 H1 L1 x1 a1 n1 => hq x v Hf1 H1 L1 x1 (sr.mono x1) a1 n1 (q.mono x1.fsame)
theorem SoT.use {t : TT} {ft : Env → Res Bool} {r : Env} {s : St} {L : List Addr} (h : SoT c K t ft) (sr : c.SR K r s Hf H L) {k : Bool → Env → Out} {D : Ends}
    (q : PostS c K Hf D (match ft r with | .ok b => k b r | .exc e => .exc e r | .bad => .bad)) {Q : Bool → Hp → Prop}
    (hq : ∀ b Hf1 H1, Ext Hf H Hf1 H1 → c.SR K r s Hf1 H1 L → PostS c K Hf1 D (k b r) → Q b H1) : t s H Q := by
  refine h r s Hf H L sr Q ?_
  cases e : ft r with
  | bad => simp only [e] at q; exact q.elim
  | exc e' =>
    simp only [e] at q
    exact fun cls d Hf1 H1 x1 h1 => q s cls d Hf1 H1 L x1.fsame (sr.mono x1) h1
  | ok x =>
    simp only [e] at q
    exact fun Hf1 H1 x1 => hq x Hf1 H1 x1 (sr.mono x1) (q.mono x1.fsame)
def put (own : Bool) : R → Option S
  | .nw o => some (.vl true (if own then o else .fz (er o)))
  | .vw _ => none
  | .bw o => some (.vl false o)
def setS (r : Env) (i : Nat) (x : Option S) : Out := match x with
  | some y => if i < r.length then .nx (r.set i y) else .bad
  | none => .bad
theorem SR.store {r : Env} {s : St} {L L1 : List Addr} {x : R} {v : V} {i : Nat} {own : Bool} {y : S} (sr : c.SR K r s Hf' H' L) (x1 : Ext Hf H Hf' H') (s0 : ∀ a, c.H0 a ≠ none → H a ≠ none) (hL : ∀ a ∈ L, H a ≠ none)
    (a1 : ResR K c.H0 Hf' H' x v L1) (n1 : Nw H Hf' H' L1) (hy : put own x = some y) (hi : i < r.length) : ∃ Hf2 L2, Same Hf' Hf2 ∧ c.SR K (r.set i y) (s.set i (some v)) Hf2 H' L2 := by
  obtain ⟨z, hz⟩ : ∃ z, r[i]? = some z := ⟨r[i], by simp [hi]⟩
  obtain ⟨w, A, M, B, h1, h2, h3, h4⟩ := sr.env.at hz
  have dis : ∀ a ∈ L1, a ∉ L := fun a ha hb => hL a hb (n1.fr a ha).1
  have nd2 : (A ++ B).Nodup := by
    have := sr.nd
    rw [h2] at this
    simp only [List.nodup_append, List.mem_append] at this ⊢
    obtain ⟨⟨n1, n2, n3⟩, n4, n5⟩ := this
    exact ⟨n1, n4, fun a ha b hb => n5 a (.inl ha) b hb⟩
  have sub2 : ∀ a ∈ A ++ B, a ∈ L := fun a ha => by
    rw [h2]; simp only [List.mem_append] at ha ⊢
    rcases ha with ha | ha
    · exact .inl (.inl ha)
    · exact .inr ha
  have key : ∀ (M' : List Addr) (Hf2 : Hp), Same Hf' Hf2 → SlotR K Hf2 c.H0 H' y (some v) M' → (∀ a ∈ M', a ∈ L1) → M'.Nodup → (∀ a ∈ M', Hf2 a = none) → (∀ a ∈ L, Hf2 a = none) → Ext c.Hf0 c.H0 Hf2 H' → Rows (tK K) Hf2 H' → c.SR K (r.set i y) (s.set i (some v)) Hf2 H' (A ++ M' ++ B) := fun M' Hf2 f q m1 m2 m3 m4 m5 m6 => by
    refine ⟨m5, h4 Hf2 H' y (some v) M' f Tst.rf (fun _ _ _ e => e) q, ?_, fun a ha => ?_, fun a ha => ?_, m6⟩
    · simp only [List.nodup_append, List.mem_append] at nd2 ⊢
      obtain ⟨n1', n2', n3'⟩ := nd2
      refine ⟨⟨n1', m2, fun a ha b hb e => ?_⟩, n2', fun a ha b hb e => ?_⟩
      · subst e; exact dis a (m1 a hb) (sub2 a (by simp [ha]))
      · subst e
        rcases ha with ha | ha
        · exact n3' a ha a hb rfl
        · exact dis a (m1 a ha) (sub2 a (by simp [hb]))
    · simp only [List.mem_append] at ha
      rcases ha with (ha | ha) | ha
      · exact ⟨m4 a (sub2 a (by simp [ha])), (sr.fr a (sub2 a (by simp [ha]))).2⟩
      · refine ⟨m3 a ha, ?_⟩
        cases e : c.H0 a with
        | none => rfl
        | some o => exact absurd (n1.fr a (m1 a ha)).1 (s0 a (by rw [e]; simp))
      · exact ⟨m4 a (sub2 a (by simp [ha])), (sr.fr a (sub2 a (by simp [ha]))).2⟩
    · simp only [List.mem_append] at ha
      rcases ha with (ha | ha) | ha
      · exact sr.ok a (sub2 a (by simp [ha]))
      · exact (n1.fr a (m1 a ha)).2.2
      · exact sr.ok a (sub2 a (by simp [ha]))
  cases x with
  | nw o =>
    cases own with
    | true =>
      simp only [put, if_true, Option.some.injEq] at hy
      subst hy
      exact ⟨Hf', _, Same.refl _, key L1 Hf' (Same.refl _) a1 (fun _ h => h) n1.nd (fun a ha => (n1.fr a ha).2.1) (fun a ha => (sr.fr a ha).1) sr.ext sr.rows⟩
    | false =>
      simp only [put, Bool.false_eq_true, if_false, Option.some.injEq] at hy
      subst hy
      have f := addF_nw n1
      refine ⟨addF Hf' H' L1, _, f, key [] _ f ⟨RepO.frozen _ f o v L1 (fun a ha => addF_in ha) a1, rfl⟩ (fun _ h => nomatch h) List.nodup_nil (fun _ h => nomatch h) (fun a ha => ?_) ?_ (sr.rows.add a1.nq.1 a1.nq.2 fun a ha => (n1.fr a ha).2.1)⟩
      · rw [addF_out fun hb => dis a hb ha]; exact (sr.fr a ha).1
      · have x2 := sr.ext
        refine ⟨x2.same, x2.fsame.trans f, addF_sub x2.sub, fun a h1 h2 => ?_, fun h => (x2.rows h).add a1.nq.1 a1.nq.2 fun a ha => (n1.fr a ha).2.1⟩
        by_cases ha : a ∈ L1
        · exact absurd (n1.fr a ha).1 (s0 a h1)
        · rw [addF_out ha] at h2; exact x2.keep a h1 h2
  | vw o => cases hy
  | bw o =>
    simp only [put, Option.some.injEq] at hy
    subst hy
    exact ⟨Hf', _, Same.refl _, key [] Hf' (Same.refl _) ⟨a1.1, rfl⟩ (fun _ h => nomatch h) List.nodup_nil (fun _ h => nomatch h) (fun a ha => (sr.fr a ha).1) sr.ext sr.rows⟩
end DL
namespace DL
open PySem L2
variable {c : Cn} {X : Cx} {a b e : Expr} {es : List Expr} {f g fa fb : FE} {pos : Pos} {fs : Env → Res (List O)} {K : PySem.W.Frag} {H0 H H' Hf Hf' : Hp} {F G : FS} {st : Stmt} {sts : List Stmt} {ft : Env → Res Bool}
def sSet (i : Nat) (own : Bool) (f : FE) : FS := sUse f fun x r => setS r i (put own x)
theorem so_set {t : TE} {i : Nat} {own : Bool} (h : SoE c K t f) : SoS c K (tAsg t (gName i)) (sSet i own f) := fun r s Hf H L sr D q => by
  refine h.use sr q fun x v Hf1 H1 L1 x1 sr1 a1 n1 q1 => ?_
  cases e : put own x with
  | none => rw [e] at q1; exact q1.elim
  | some y =>
    rw [e] at q1
    by_cases hi : i < r.length
    · simp only [setS, if_pos hi] at q1
      obtain ⟨Hf2, L2, f2, sr2⟩ := sr1.store x1 (fun _ => sr.ext.same.ne_none) sr.ok a1 n1 e hi
      exact q1 _ _ _ _ f2 sr2
    · simp only [setS, if_neg hi] at q1; exact q1.elim
theorem ds_set {i : Nat} {x : Str} {pos' : Pos} (own : Bool) (hN : X.N.Nodup) (hi : X.N[i]? = some x) (hx : Loc X.env.scope x) (h : DE c X e f) (hs : swapsWith e (some (.Name x pos')) pos.line X.env = pure false := by rfl)
    (hf : X.fn x = true ∨ X.env.scope.names.lookup x = some .local := by first | exact .inl rfl | exact .inr rfl | assumption) : DS c X (.Assign [.Name x pos'] e pos) (sSet i own f) := by
  obtain ⟨t, p, s⟩ := h.ex
  exact ⟨tAsg t (gName i), ps_set hN hi hx p hs hf, so_set s⟩
def retR : R → Out
  | .nw o => .ret o
  | _ => .bad
def sRet (f : FE) : FS := sUse f fun x _ => retR x
theorem ds_ret (h : DE c X e f) : DS c X (.Return (some e) pos) (sRet f) := by
  obtain ⟨t, p, s⟩ := h.ex
  refine ⟨tRet t, ps_ret p, fun r s' Hf H L sr D q => ?_⟩
  refine s.use sr q fun x v Hf1 H1 L1 x1 sr1 a1 n1 q1 => ?_
  cases x with
  | nw o => exact q1 v Hf1 H1 L1 (Same.refl _) sr1.ext a1 (n1.mono sr.ext.same)
  | vw _ => exact q1.elim
  | bw _ => exact q1.elim
def sRetV (i : Nat) : FS := fun r => match r[i]? with
  | some (.vl true o) => .ret o
  | _ => .bad
theorem ds_retV {i : Nat} (h : PE X e (tVar i)) : DS c X (.Return (some e) pos) (sRetV i) := by
  refine ⟨tRet (tVar i), ps_ret h, fun r s Hf H L sr D q => ?_⟩
  cases er1 : r[i]? with
  | none => simp only [sRetV, er1] at q; exact q.elim
  | some x =>
    cases x with
    | un => simp only [sRetV, er1] at q; exact q.elim
    | me _ _ => simp only [sRetV, er1] at q; exact q.elim
    | tq _ => simp only [sRetV, er1] at q; exact q.elim
    | lt _ _ => simp only [sRetV, er1] at q; exact q.elim
    | fa _ => simp only [sRetV, er1] at q; exact q.elim
    | vl w o =>
      cases w with
      | false => simp only [sRetV, er1] at q; exact q.elim
      | true =>
        simp only [sRetV, er1] at q
        obtain ⟨y, L1, M, L2, h1, h2, h3, _⟩ := sr.env.at er1
        cases y with
        | none => exact h3.elim
        | some v =>
          refine ⟨v, h1, q v Hf H M (Same.refl _) sr.ext h3 ⟨?_, fun a ha => ?_⟩⟩
          · have := sr.nd
            rw [h2] at this
            simp only [List.nodup_append] at this
            exact this.1.2.1
          · have ha' : a ∈ L := by rw [h2]; simp [ha]
            exact ⟨(sr.fr a ha').2, (sr.fr a ha').1, sr.ok a ha'⟩
def sIf (ft : Env → Res Bool) (F G : FS) : FS := fun r => match ft r with
  | .ok b => if b then F r else G r
  | .exc e => .exc e r
  | .bad => .bad
theorem ds_if {t : Expr} {xs ys : List Stmt} (h : DT c X t ft) (h1 : DSs c X xs F) (h2 : DSs c X ys G) : DS c X (.If t xs ys pos) (sIf ft F G) := by
  obtain ⟨tt, p, s⟩ := h.ex
  obtain ⟨u, p1, s1⟩ := h1.ex
  obtain ⟨w, p2, s2⟩ := h2.ex
  refine ⟨tIfS tt u w, ps_if p p1 p2, fun r s' Hf H L sr D q => ?_⟩
  refine s.use (k := fun b r => if b then F r else G r) sr q fun b Hf1 H1 x1 sr1 q1 => ?_
  cases b with
  | true => exact s1 r s' Hf1 H1 L sr1 D q1
  | false => exact s2 r s' Hf1 H1 L sr1 D q1
def sDrop (f : FE) : FS := sUse f fun _ r => .nx r
theorem SR.slot {r : Env} {s : St} {L : List Addr} {i : Nat} {w : Bool} {o : O} (sr : c.SR K r s Hf H L) (e : r[i]? = some (.vl w o)) : ∃ v, s[i]? = some (some v) ∧ RepV K Hf H o v := by
  obtain ⟨z, L1, M, L2, h1, h2', h3, _⟩ := sr.env.at e
  cases z with
  | none => cases w <;> exact h3.elim
  | some v =>
    cases w with
    | true => exact ⟨v, h1, RepO.view o v M h3⟩
    | false => exact ⟨v, h1, RepV.mono (Same.refl _) sr.ext.same o v h3.1⟩
theorem nw_nil {Hf' H' : Hp} : Nw H Hf' H' [] := ⟨List.nodup_nil, fun _ h => nomatch h⟩
theorem RepVs.append : ∀ {os ps : List O} {vs ws : List V}, RepVs K Hf H os vs → RepVs K Hf H ps ws → RepVs K Hf H (os ++ ps) (vs ++ ws)
  | [], _, _, _, h, h2 => by have h' : _ = _ := h; subst h'; exact h2
  | o :: os, _, _, _, h, h2 => by
    obtain ⟨v, r, e, h3, h4⟩ := h
    subst e
    exact ⟨v, _, rfl, h3, RepVs.append h4 h2⟩
theorem RepVs.set : ∀ {os : List O} {vs : List V} {i : Nat} {o : O} {v : V}, RepVs K Hf H os vs → RepV K Hf H o v → RepVs K Hf H (os.set i o) (vs.set i v)
  | [], _, _, _, _, h, _ => by have h' : _ = _ := h; subst h'; rfl
  | x :: os, _, 0, _, _, h, h2 => by
    obtain ⟨v, r, e, h3, h4⟩ := h
    subst e
    exact ⟨_, r, rfl, h2, h4⟩
  | x :: os, _, i + 1, _, _, h, h2 => by
    obtain ⟨v, r, e, h3, h4⟩ := h
    subst e
    exact ⟨v, _, rfl, h3, RepVs.set h4 h2⟩
theorem RepVs.dropLast : ∀ {os : List O} {vs : List V}, RepVs K Hf H os vs → RepVs K Hf H os.dropLast vs.dropLast
  | [], _, h => by have h' : _ = _ := h; subst h'; rfl
  | [x], _, h => by
    obtain ⟨v, r, e, h3, h4⟩ := h
    have h' : r = [] := h4
    subst h'
    subst e
    rfl
  | x :: y :: os, _, h => by
    obtain ⟨v, r, e, h3, v2, r2, e2, h5, h6⟩ := h
    subst e2 e
    exact ⟨v, _, rfl, h3, RepVs.dropLast (os := y :: os) ⟨v2, r2, rfl, h5, h6⟩⟩
end DL
namespace DL
open PySem L2
variable {c : Cn} {X : Cx} {a b e : Expr} {es : List Expr} {f g fa fb : FE} {pos : Pos} {fs : Env → Res (List O)} {K : PySem.W.Frag} {H0 H H' Hf Hf' : Hp} {F G : FS} {st : Stmt} {sts : List Stmt} {ft : Env → Res Bool}
abbrev FG := R → Env → Option Env
def SoG (c : Cn) (K : PySem.W.Frag) (t : TG) (fg : FG) (vs : List Nat) : Prop := ∀ x v r r1 s Hf H L, c.SR K r s Hf H L → ArgR K c.H0 Hf H x v → fg x r = some r1 → ∀ Q : St → Hp → Prop,
  (∀ s1 L1, c.SR K r1 s1 Hf H L1 → wipe s1 vs = wipe s vs → Q s1 H) → t v s H Q
def gN (i : Nat) : FG := fun x r => match (match x with | .nw o => some (S.vl true (.fz (er o))) | .vw _ => none | .bw o => some (S.vl false o)) with
  | some y => if i < r.length then some (r.set i y) else none
  | none => none
theorem SR.storeA {r : Env} {s : St} {L : List Addr} {x : R} {v : V} {i : Nat} {r1 : Env} (sr : c.SR K r s Hf H L) (a1 : ArgR K c.H0 Hf H x v) (e : gN i x r = some r1) : ∃ L1, c.SR K r1 (s.set i (some v)) Hf H L1 := by
  have go : ∀ (x : R), ResR K c.H0 Hf H x v [] → ∀ y, put false x = some y → i < r.length → ∃ Hf2 L2, Same Hf Hf2 ∧ c.SR K (r.set i y) (s.set i (some v)) Hf2 H L2 := fun x a y hy hi =>
    sr.store (own := false) (Ext.refl sr.sub) (fun _ => sr.ext.same.ne_none) sr.ok a nw_nil hy hi
  cases x with
  | vw o => cases e
  | nw o =>
    simp only [gN] at e
    by_cases hi : i < r.length
    · rw [if_pos hi] at e
      cases e
      obtain ⟨z, hz⟩ : ∃ z, r[i]? = some z := ⟨r[i], by simp [hi]⟩
      obtain ⟨w, A, M, B, h1, h2, h3, h4⟩ := sr.env.at hz
      have sub2 : ∀ a ∈ A ++ [] ++ B, a ∈ L := fun a ha => by
        rw [h2]; simp only [List.mem_append, List.not_mem_nil, or_false] at ha ⊢
        rcases ha with ha | ha
        · exact .inl (.inl ha)
        · exact .inr ha
      refine ⟨A ++ [] ++ B, sr.ext, h4 Hf H _ _ [] (Same.refl _) Tst.rf (fun _ _ _ e => e) ⟨a1, rfl⟩, ?_, fun a ha => sr.fr a (sub2 a ha), fun a ha => sr.ok a (sub2 a ha), sr.rows⟩
      have nd := sr.nd
      rw [h2] at nd
      simp only [List.nodup_append, List.mem_append] at nd
      simp only [List.append_nil, List.nodup_append]
      obtain ⟨⟨n1, n2, d1⟩, n3, d2⟩ := nd
      exact ⟨n1, n3, fun a ha b hb => d2 a (.inl ha) b hb⟩
    · rw [if_neg hi] at e; cases e
  | bw o =>
    simp only [gN] at e
    by_cases hi : i < r.length
    · rw [if_pos hi] at e
      cases e
      obtain ⟨z, hz⟩ : ∃ z, r[i]? = some z := ⟨r[i], by simp [hi]⟩
      obtain ⟨w, A, M, B, h1, h2, h3, h4⟩ := sr.env.at hz
      have sub2 : ∀ a ∈ A ++ [] ++ B, a ∈ L := fun a ha => by
        rw [h2]; simp only [List.mem_append, List.not_mem_nil, or_false] at ha ⊢
        rcases ha with ha | ha
        · exact .inl (.inl ha)
        · exact .inr ha
      refine ⟨A ++ [] ++ B, sr.ext, h4 Hf H _ _ [] (Same.refl _) Tst.rf (fun _ _ _ e => e) ⟨a1, rfl⟩, ?_, fun a ha => sr.fr a (sub2 a ha), fun a ha => sr.ok a (sub2 a ha), sr.rows⟩
      have nd := sr.nd
      rw [h2] at nd
      simp only [List.nodup_append, List.mem_append] at nd
      simp only [List.append_nil, List.nodup_append]
      obtain ⟨⟨n1, n2, d1⟩, n3, d2⟩ := nd
      exact ⟨n1, n3, fun a ha b hb => d2 a (.inl ha) b hb⟩
    · rw [if_neg hi] at e; cases e
theorem wipe_set {s : St} {i : Nat} {v : Option V} : ∀ {vs : List Nat}, i ∈ vs → wipe (s.set i v) vs = wipe s vs
  | [], h => by simp at h
  | j :: vs, h => by
    show (wipe (s.set i v) vs).set j none = (wipe s vs).set j none
    by_cases hj : i ∈ vs
    · rw [wipe_set hj]
    · have e : i = j := by simpa [hj] using h
      subst e
      have key : ∀ {vs : List Nat} {s : St}, i ∉ vs → wipe (s.set i v) vs = (wipe s vs).set i v := by
        intro vs
        induction vs with
        | nil => intro s _; rfl
        | cons k vs ih =>
          intro s hk
          simp only [List.mem_cons, not_or] at hk
          show (wipe (s.set i v) vs).set k none = ((wipe s vs).set k none).set i v
          rw [ih hk.2, List.set_comm _ _ hk.1]
      rw [key hj, List.set_set]
theorem so_gN {i : Nat} {vs : List Nat} (h : i ∈ vs) : SoG c K (gName i) (gN i) vs := fun x v r r1 s Hf H L sr a1 e Q q => by
  obtain ⟨L1, sr1⟩ := sr.storeA a1 e
  exact q _ L1 sr1 (wipe_set h)
structure DG (c : Cn) (X : Cx) (tg : Expr) (fg : FG) (vs : List Nat) : Prop where
  ex : ∃ t, PG X tg t ∧ SoG c X.K t fg vs
theorem dg_name {i : Nat} {x : Str} {vs : List Nat} (hN : X.N.Nodup) (hi : X.N[i]? = some x) (hx : Loc X.env.scope x) (hv : i ∈ vs := by simp) (hf : X.fn x = true ∨ X.env.scope.names.lookup x = some .local := by first | exact .inl rfl | exact .inr rfl | assumption) : DG c X (.Name x pos) (gN i) vs :=
  ⟨gName i, pg_name hN hi hx hf, so_gN hv⟩
def gL : List FG → List D → Env → Option Env
  | [], [], r => some r
  | g :: gs, d :: ds, r => (g (.nw (.fz d)) r).bind fun r1 => gL gs ds r1
  | _, _, _ => none
def SoGs (c : Cn) (K : PySem.W.Frag) (t : TGs) (gs : List FG) (vs : List Nat) : Prop := ∀ ds ws r r1 s Hf H L, c.SR K r s Hf H L → Reps K Hf ds ws → gL gs ds r = some r1 → ∀ Q : St → Hp → Prop,
  (∀ s1 L1, c.SR K r1 s1 Hf H L1 → wipe s1 vs = wipe s vs → Q s1 H) → t ws s H Q
structure DGs (c : Cn) (X : Cx) (ts : List Expr) (gs : List FG) (vs : List Nat) : Prop where
  ex : ∃ t, PGs X ts t ∧ SoGs c X.K t gs vs
def R.z : R → R
  | .nw o => .nw (.fz (er o))
  | .vw o => .vw o
  | .bw o => .bw o
def Wk (K : PySem.W.Frag) (H0 Hf : Hp) (its : List R) (J : It) : Prop := ∀ Hf2 H2, Same Hf Hf2 → Same Hf2 H2 → Sm H0 H2 →
  (∀ i it, its[i]? = some it → J.go i H2 ∧ ∀ x H3, J.yld i H2 x H3 → ∃ Hf3, Ext Hf2 H2 Hf3 H3 ∧ ArgR K H0 Hf3 H3 it x) ∧ J.stop its.length H2
def PostI (c : Cn) (K : PySem.W.Frag) (s : St) (Hf H : Hp) (Q : It → Hp → Prop) : Res (List R) → Prop
  | .ok its => ∀ J Hf' H', Ext Hf H Hf' H' → Wk K c.H0 Hf' its J → Q J H'
  | .exc e => PostX c K s Hf H e
  | .bad => False
def SoI (c : Cn) (K : PySem.W.Frag) (t : TI) (fi : Env → Res (List R)) : Prop := ∀ r s Hf H L, c.SR K r s Hf H L → ∀ Q, PostI c K s Hf H Q (fi r) → t s H Q
structure DI (c : Cn) (X : Cx) (tg e : Expr) (fi : Env → Res (List R)) : Prop where
  ex : ∃ t, PI X tg e t ∧ SoI c X.K t fi
theorem pstI {s : St} {Q : It → Hp → Prop} : Pst c K s (fun Hf H z => PostI c K s Hf H Q z) where
  bad := fun _ _ h => h
  exc := fun _ _ _ h => h
  mono := fun Hf H Hf' H' z x h => by
    cases z with
    | ok r => exact fun v Hf2 H2 y q => h v Hf2 H2 (x.trans y) q
    | exc e => exact PostX.mono x h
    | bad => exact h
def itsL : R → Res (List R)
  | .nw o => (match items (.fz (er o)) with | some os => .ok (os.map .nw) | none => .bad)
  | .bw o => (match items o with | some os => .ok (os.map (see false)) | none => .bad)
  | .vw _ => .bad
theorem see_arg {H0 Hf H : Hp} {o : O} {v : V} (h : RepV K Hf H0 o v) : ArgR K H0 Hf H (see false o) v := by
  cases o with
  | fz d => exact h
  | ls os => exact h
  | tp os => exact h
  | ob _ _ _ => exact h
  | dt _ _ => exact h
  | dk _ _ => exact h
  | gh _ _ _ => exact h
theorem items_fz {d : D} {os : List O} (e : items (.fz d) = some os) : ∀ o ∈ os, ∃ d', o = .fz d' := by
  cases d with
  | lst ds =>
    have e' : ds.map O.fz = os := Option.some.inj e
    subst e'
    intro o ho
    obtain ⟨d, _, rfl⟩ := List.mem_map.mp ho
    exact ⟨d, rfl⟩
  | scr ns =>
    have e' : (ns.map fun n => O.fz (.int n)) = os := Option.some.inj e
    subst e'
    intro o ho
    obtain ⟨d, _, rfl⟩ := List.mem_map.mp ho
    exact ⟨_, rfl⟩
  | _ => cases e
theorem itsL_ok {x : R} {v : V} {its : List R} (s : Same Hf H) (s0 : Sm H0 H) (h : ArgR K H0 Hf H x v) (e : itsL x = .ok its) : ∃ (a : Addr) (vs : List V), v = .ref a ∧ vs.length = its.length ∧ SqL K H a vs ∧
    ∀ Hf2 H2, Same Hf Hf2 → Same Hf2 H2 → Sm H0 H2 → SqL K H2 a vs ∧ ∀ (i : Nat) (it : R), its[i]? = some it → ∃ w : V, vs[i]? = some w ∧ ArgR K H0 Hf2 H2 it w := by
  cases x with
  | vw o => cases e
  | nw o =>
    simp only [itsL] at e
    cases ei : items (.fz (er o)) with
    | none => rw [ei] at e; cases e
    | some os =>
      rw [ei] at e
      cases e
      have hfz := items_fz ei
      have h' : RepV K Hf Hf (.fz (er o)) v := h
      obtain ⟨a, vs, e1, h1, h2⟩ := items_rep (Same.refl Hf) h' ei
      refine ⟨a, vs, e1, by rw [RepVs.length h2]; simp, s.seq h1, fun Hf2 H2 f1 f2 f3 => ⟨(f1.trans f2).seq h1, fun i it hi => ?_⟩⟩
      rw [List.getElem?_map] at hi
      cases eo : os[i]? with
      | none => rw [eo] at hi; cases hi
      | some o' =>
        rw [eo] at hi
        cases hi
        obtain ⟨w, hw, rw'⟩ := RepVs.get h2 eo
        obtain ⟨d', rfl⟩ := hfz o' (List.mem_of_getElem? eo)
        exact ⟨w, hw, Rep.mono f1 _ _ rw'⟩
  | bw o =>
    simp only [itsL] at e
    cases ei : items o with
    | none => rw [ei] at e; cases e
    | some os =>
      rw [ei] at e
      cases e
      cases o with
      | tp _ => cases ei
      | ob _ _ _ => cases ei
      | dt _ _ => cases ei
      | dk _ _ => cases ei
      | gh _ _ _ => cases ei
      | ls os' =>
        have e' : os' = os := Option.some.inj ei
        subst e'
        obtain ⟨a, vs, e1, h1, h2⟩ := h
        refine ⟨a, vs, e1, by rw [RepVs.length h2]; simp, SqL.of (s0.lst h1), fun Hf2 H2 f1 f2 f3 => ⟨SqL.of (f3.lst h1), fun i it hi => ?_⟩⟩
        rw [List.getElem?_map] at hi
        cases eo : os'[i]? with
        | none => rw [eo] at hi; cases hi
        | some o' =>
          rw [eo] at hi
          cases hi
          obtain ⟨w, hw, rw'⟩ := RepVs.get h2 eo
          exact ⟨w, hw, see_arg (RepV.mono f1 (Sm.refl _) _ _ rw')⟩
      | fz d =>
        have hfz := items_fz ei
        have h' : RepV K Hf Hf (.fz d) v := h
        obtain ⟨a, vs, e1, h1, h2⟩ := items_rep (Same.refl Hf) h' ei
        refine ⟨a, vs, e1, by rw [RepVs.length h2]; simp, s.seq h1, fun Hf2 H2 f1 f2 f3 => ⟨(f1.trans f2).seq h1, fun i it hi => ?_⟩⟩
        rw [List.getElem?_map] at hi
        cases eo : os[i]? with
        | none => rw [eo] at hi; cases hi
        | some o' =>
          rw [eo] at hi
          cases hi
          obtain ⟨w, hw, rw'⟩ := RepVs.get h2 eo
          obtain ⟨d', rfl⟩ := hfz o' (List.mem_of_getElem? eo)
          exact ⟨w, hw, Rep.mono f1 _ _ rw'⟩
def iLst (f : FE) : Env → Res (List R) := fun r => (f r).bind itsL
theorem di_list {tg : Expr} (h : DE c X e f) : DI c X tg e (iLst f) := by
  obtain ⟨t, p, s⟩ := h.ex
  refine ⟨iList X.K t, pi_list p, fun r s' Hf H L sr Q q => ?_⟩
  refine s.run sr pstI q fun x v Hf1 H1 x1 sr1 a1 q1 => ?_
  cases e1 : itsL x with
  | bad => rw [e1] at q1; exact q1.elim
  | exc e' => exfalso; cases x <;> simp only [itsL] at e1 <;> (try split at e1) <;> cases e1
  | ok its =>
    rw [e1] at q1
    obtain ⟨a, vs, e2, hl, h1, h2⟩ := itsL_ok sr1.sub sr1.same0 a1 e1
    refine ⟨a, e2, ⟨vs, h1⟩, q1 (Itl X.K a) Hf1 H1 (Ext.refl sr1.sub) fun Hf2 H2 f1 f2 f3 => ?_⟩
    obtain ⟨g1, g2⟩ := h2 Hf2 H2 f1 f2 f3
    refine ⟨fun i it hi => ?_, ⟨vs, g1, by omega⟩⟩
    obtain ⟨w, hw, aw⟩ := g2 i it hi
    refine ⟨⟨vs, w, g1, hw⟩, fun x H3 ⟨eH, hx⟩ => ?_⟩
    subst eH
    have ew := hx vs g1
    rw [hw] at ew
    cases ew
    exact ⟨Hf2, Ext.refl f2, aw⟩
def intR (n : Int) : R := .nw (.fz (.int n))
def rngL (lo : Int) (n : Nat) : List R := (List.range n).map fun (k : Nat) => intR (lo + (k : Nat))
def small62 (i : Int) : Bool := decide (-(2 ^ 62) ≤ i ∧ i < 2 ^ 62)
def rng1 : List O → Res (List R)
  | [.fz (.int j)] => if small62 j then .ok (rngL 0 j.toNat) else .bad
  | _ => .bad
def iRng (g : List O → Res (List R)) (fs : Env → Res (List O)) : Env → Res (List R) := fun r => (fs r).bind g
theorem wk_rng {lo : Int} {n : Nat} : Wk K H0 Hf (rngL lo n) (Itr lo n) := fun Hf2 H2 f1 f2 f3 => by
  refine ⟨fun i it hi => ?_, by show n ≤ (rngL lo n).length; simp [rngL]⟩
  have hlt : i < n := by
    have := (List.getElem?_eq_some_iff.mp hi).1
    simpa [rngL] using this
  refine ⟨hlt, fun x H3 ⟨eH, ex⟩ => ?_⟩
  subst eH ex
  have e : (rngL lo n)[i]? = some (intR (lo + (i : Nat))) := by simp [rngL, hlt]
  rw [e] at hi
  cases hi
  exact ⟨Hf2, Ext.refl f2, rfl⟩
theorem ints1 {os : List O} {vs : List V} {β : Type} {k : Int → Res β} {g : List O → Res β} (hg : ∀ os, g os = match os with | [.fz (.int j)] => k j | _ => .bad) (h : RepVs K Hf H os vs) : g os = .bad ∨ ∃ j, g os = k j ∧ vs = [.int j] := by
  rw [hg]
  split
  · rename_i j
    obtain ⟨v, r, e1, h1, h2⟩ := h
    have h2' : r = [] := h2
    have h1' : v = .int j := h1
    subst h2' h1' e1
    exact .inr ⟨j, rfl, rfl⟩
  · exact .inl rfl
theorem di_rng1 {tg e : Expr} {p pos : Pos} (hg : Gl X "range") (hm : X.mg "range" = none) (h : DA c X [e] fs) (hs : starEach [e] X.env = [(false, eval e X.env)] := by rfl) : DI c X tg (.Call (.Name "range" p) [e] [] pos) (iRng rng1 fs) := by
  obtain ⟨t, pa, s⟩ := h.ex
  refine ⟨iRng1 t, pi_range1 hg hm pa hs, fun r s' Hf H L sr Q q => ?_⟩
  refine s.run sr pstI q fun os vs Hf1 H1 x1 sr1 a1 q1 => ?_
  rcases ints1 (k := fun j => if small62 j then .ok (rngL 0 j.toNat) else .bad) (g := rng1) (fun os => by unfold rng1; rfl) a1 with e0 | ⟨j, e0, ev⟩
  · rw [e0] at q1; exact q1.elim
  · rw [e0] at q1
    by_cases hj : small62 j = true
    · rw [if_pos hj] at q1
      have hj' := of_decide_eq_true hj
      exact ⟨j, ev, hj'.1, hj'.2, q1 _ Hf1 H1 (Ext.refl sr1.sub) wk_rng⟩
    · rw [if_neg hj] at q1; exact q1.elim
def forL (fg : FG) (F : FS) : List R → Env → Out
  | [], r => .nx r
  | x :: xs, r => match fg x r with
    | none => .bad
    | some r1 => (match F r1 with
      | .nx r' => forL fg F xs r'
      | .ct r' => forL fg F xs r'
      | .bk r' => .nx r'
      | o => o)
def sFor (fi : Env → Res (List R)) (fg : FG) (F : FS) : FS := fun r => match fi r with
  | .ok its => forL fg F its r
  | .exc e => .exc e r
  | .bad => .bad
theorem so_for {wi : TI} {g : TG} {tb : TS} {fi : Env → Res (List R)} {fg : FG} {vs : List Nat} (hi : SoI c K wi fi) (hg : SoG c K g fg vs) (hb : SoS c K tb F) : SoS c K (tFor wi g tb) (sFor fi fg F) := fun r s Hf0 H L sr D q => by
  refine hi r s Hf0 H L sr _ ?_
  cases ei : fi r with
  | bad => simp only [sFor, ei] at q; exact q.elim
  | exc e' =>
    simp only [sFor, ei] at q
    exact fun cls d Hf1 H1 x1 h1 => q s cls d Hf1 H1 L x1.fsame (sr.mono x1) h1
  | ok its =>
    simp only [sFor, ei] at q
    intro J Hf1 H1 x1 wk
    refine ⟨fun i m s H => m = its.length - i ∧ i ≤ its.length ∧ ∃ r Hf L, c.SR K r s Hf H L ∧ Same Hf1 Hf ∧ PostS c K Hf D (forL fg F (its.drop i) r), ⟨its.length, by simp, Nat.zero_le _, r, Hf1, L, sr.mono x1, Same.refl _, by simpa using q.mono x1.fsame⟩, ?_⟩
    rintro i m s H ⟨rfl, hle, r, Hf, L, sr, f1, q⟩
    obtain ⟨w1, w2⟩ := wk Hf H f1 sr.sub sr.same0
    by_cases hlt : i < its.length
    · have hit : its[i]? = some its[i] := by simp [hlt]
      obtain ⟨go, yld⟩ := w1 i _ hit
      rw [List.drop_eq_getElem_cons hlt] at q
      refine .inr ⟨go, fun s' H' => ∃ r Hf L, c.SR K r s' Hf H' L ∧ Same Hf1 Hf ∧ PostS c K Hf D (forL fg F (its.drop (i + 1)) r), fun s' H' ⟨r', Hf', L', sr', f', q'⟩ => ⟨its.length - (i + 1), by omega, rfl, hlt, r', Hf', L', sr', f', q'⟩, fun x H3 hy => ?_⟩
      obtain ⟨Hf3, x3, a3⟩ := yld x H3 hy
      have sr3 := sr.mono x3
      unfold forL at q
      cases eg : fg its[i] r with
      | none => rw [eg] at q; exact q.elim
      | some r1 =>
        rw [eg] at q
        refine hg _ x r r1 s Hf3 H3 L sr3 a3 eg _ fun s1 L1 sr1 _ => ?_
        refine hb r1 s1 Hf3 H3 L1 sr1 _ ?_
        have f3 : Same Hf1 Hf3 := f1.trans x3.fsame
        have q3 := q.mono x3.fsame
        dsimp only at q3
        cases eF : F r1 with
        | nx r' => rw [eF] at q3; exact fun s2 Hf2 H2 L2 f2 sr2 => ⟨r', Hf2, L2, sr2, f3.trans f2, q3.mono f2⟩
        | ct r' => rw [eF] at q3; exact fun s2 Hf2 H2 L2 f2 sr2 => ⟨r', Hf2, L2, sr2, f3.trans f2, q3.mono f2⟩
        | bk r' => rw [eF] at q3; exact q3
        | ret o => rw [eF] at q3; exact q3
        | exc e' r' => rw [eF] at q3; exact q3
        | bad => rw [eF] at q3; exact q3
    · have e : i = its.length := by omega
      subst e
      rw [List.drop_length] at q
      exact .inl ⟨w2, q s Hf H L (Same.refl _) sr⟩
theorem ds_for {k : Nat} {tg it : Expr} {fi : Env → Res (List R)} {fg : FG} {vs : List Nat} (B : Bk c X k) (hi : DI c X tg it fi) (hg : DG c X tg fg vs) (hb : DSs c X sts F)
    (hs : ∀ x, foldedSetIterable it X.env x = pure x := by intro _; rfl) : DS c X (.For tg it sts [] pos) (sFor fi fg F) := by
  obtain ⟨wi, p, s⟩ := hi.ex
  obtain ⟨g, p2, s2⟩ := hg.ex
  obtain ⟨tb, p3, s3⟩ := hb.ex
  exact ⟨tFor wi g tb, ps_for B.po B.calm p p2 p3 hs, so_for s s2 s3⟩
end DL
namespace DL
open PySem L2
variable {c : Cn} {X : Cx} {a b e : Expr} {es : List Expr} {f g fa fb : FE} {pos : Pos} {fs : Env → Res (List O)} {K : PySem.W.Frag} {H0 H H' Hf Hf' : Hp} {F G : FS} {st : Stmt} {sts : List Stmt} {ft : Env → Res Bool}
def startE (n : Nat) (os : List O) : Env := os.map (S.vl false) ++ List.replicate (n - os.length) S.un
def runF (n : Nat) (F : FS) : List O → Res O := fun os => match F (startE n os) with
  | .ret o => .ok o
  | .nx _ => .ok (.fz .non)
  | .exc e _ => .exc e
  | _ => .bad
theorem env_un {n : Nat} : EnvR K Hf H0 H (List.replicate n S.un) (List.replicate n none) [] := by
  induction n with
  | zero => exact ⟨rfl, rfl⟩
  | succ n ih => exact ⟨none, List.replicate n none, [], [], rfl, rfl, rfl, ih⟩
theorem env_start {m : Nat} : ∀ {os : List O} {vs : List V}, RepVs K Hf H0 os vs → EnvR K Hf H0 H (os.map (S.vl false) ++ List.replicate m S.un) (vs.map some ++ List.replicate m none) []
  | [], _, h => by have h' : _ = _ := h; subst h'; exact env_un
  | o :: os, _, h => by
    obtain ⟨v, r, e1, h1, h2⟩ := h
    subst e1
    exact ⟨some v, _, [], [], rfl, rfl, ⟨h1, rfl⟩, env_start h2⟩
section
variable {P : Program} {w : World} {mg : Str → Option Value} {base : Heap}
theorem Def.of {x qual : Str} {st : Stmt} {fa : Addr} {fd : FuncData} {N ps : List Str} {k n : Nat} {F : FS} (Fn : Fun K x qual st fa fd) (S : FnScope N ps (defScope st)) (hm : mg x = some (.ref fa)) (hb : Binds K fd ps []) (hn : ps.length = n)
    (hbody : ∀ (cdv : Value) (A : Around) (outer : List PySem.Env) (s : Shared) (H : Hp) (E : XK) (Hf : Hp), Bk ⟨Hf, H, fun cls d _ H' => E cls d H'⟩ (cxOf (L2.CX P w) P w K mg base N qual (defScope st) fa cdv A outer s H E) k →
      DSs ⟨Hf, H, fun cls d _ H' => E cls d H'⟩ (cxOf (L2.CX P w) P w K mg base N qual (defScope st) fa cdv A outer s H E) (defBody st) F) : Def P w K mg base x (k + 1) n (runF N.length F) := by
  refine ⟨fa, fd, ps, ?_, hm, Fn.kp, hb, hn⟩
  subst hn
  refine Fn.okX S (fun vs H Q E h => ?_) (fun cdv A outer s H vs Q E hr h => ?_)
  · obtain ⟨Hf, os, _, _, h2, h3, _⟩ := h
    rw [RepVs.length h2, h3]
  · obtain ⟨Hf, os, sub, hro, h2, h3, h4⟩ := h
    have B : Bk ⟨Hf, H, fun cls d _ H' => E cls d H'⟩ (cxOf (L2.CX P w) P w K mg base N qual (defScope st) fa cdv A outer s H E) k := ⟨hr, takes_of rfl rfl rfl rfl, passes_of rfl, rfl⟩
    obtain ⟨t, p, so⟩ := (hbody cdv A outer s H E Hf B).ex
    refine ⟨t, p, ?_⟩
    have hl : vs.length = os.length := RepVs.length h2
    have sr : SR K Hf H (startE N.length os) (L2.start N vs) Hf H [] := by
      refine ⟨Ext.refl sub, ?_, List.nodup_nil, (fun _ h => nomatch h), (fun _ h => nomatch h), hro⟩
      unfold startE L2.start
      rw [hl]
      exact env_start h2
    refine so _ _ Hf H [] sr _ ?_
    unfold runF at h4
    cases e : F (startE N.length os) with
    | ret o => rw [e] at h4; exact fun v Hf' H' L _ x q n => h4 v Hf' H' L x q n
    | nx r => rw [e] at h4; exact fun s Hf' H' L f sr' => h4 .non Hf' H' [] sr'.ext ⟨rfl, rfl⟩ nw_nil
    | bk r => rw [e] at h4; exact h4.elim
    | ct r => rw [e] at h4; exact h4.elim
    | exc e' r => rw [e] at h4; exact fun s cls d Hf' H' L _ sr' h => h4 cls d Hf' H' sr'.ext h
    | bad => rw [e] at h4; exact h4.elim
theorem Def.imp {x : Str} {k n : Nat} {F F' : List O → Res O} (D : Def P w K mg base x k n F) (h : ∀ os, os.length = n → F' os = .bad ∨ F' os = F os) : Def P w K mg base x k n F' := by
  obtain ⟨fa, fd, ps, h1, h2, h3, h4, h5⟩ := D.ex
  refine ⟨fa, fd, ps, h1.imp fun vs H Q E q => ?_, h2, h3, h4, h5⟩
  obtain ⟨Hf, os, q1, q0, q2, q3, q4⟩ := q
  refine ⟨Hf, os, q1, q0, q2, q3, ?_⟩
  rcases h os q3 with e | e
  · rw [e] at q4; exact q4.elim
  · rw [← e]; exact q4
theorem Def.mono {x : Str} {k k' n : Nat} {F : List O → Res O} (D : Def P w K mg base x k n F) (h : k ≤ k') : Def P w K mg base x k' n F := by
  obtain ⟨fa, fd, ps, h1, h2⟩ := D.ex
  exact ⟨fa, fd, ps, h1.mono h, h2⟩
end
def lenO : O → Option Nat
  | .fz (.tup ds) => some ds.length
  | .tp os => some os.length
  | .fz (.str x) => if x.length ≤ 100000 then some x.length else none
  | o => (items o).map List.length
def gLen : List O → Res R
  | [o] => (match lenO o with | some n => fzR (.int n) | none => .bad)
  | _ => .bad
theorem rep1 {o : O} {vs : List V} (h : RepVs K Hf H [o] vs) : ∃ v, vs = [v] ∧ RepV K Hf H o v := by
  obtain ⟨v, r, e, h1, h2⟩ := h
  have h2' : r = [] := h2
  subst h2'
  exact ⟨v, e, h1⟩
theorem lenO_ok {o : O} {v : V} {n : Nat} (s : Same Hf H) (h : RepV K Hf H o v) (e : lenO o = some n) : LenV K v H n := by
  have go : (items o).map List.length = some n → LenV K v H n := fun e => by
    cases ei : items o with
    | none => rw [ei] at e; cases e
    | some os =>
      rw [ei] at e
      have e' : os.length = n := Option.some.inj e
      obtain ⟨a, vs, e1, h1, h2⟩ := items_rep s h ei
      subst e1
      exact .inl ⟨vs, h1, by rw [RepVs.length h2]; exact e'.symm⟩
  cases o with
  | ls os => exact go e
  | tp os =>
    obtain ⟨a, vs, e1, h1, h2⟩ := h
    subst e1
    have e' : os.length = n := Option.some.inj e
    exact .inr ⟨vs, SqT.of h1, by rw [RepVs.length h2]; exact e'.symm⟩
  | ob _ _ _ => cases e
  | dt _ _ => cases e
  | dk _ _ => cases e
  | gh _ _ _ => cases e
  | fz d =>
    cases d with
    | tup ds =>
      obtain ⟨a, vs, e1, h1, h2⟩ := h
      subst e1
      have e' : ds.length = n := Option.some.inj e
      exact .inr ⟨vs, SqT.of (s _ _ h1), by rw [Reps.length h2]; exact e'.symm⟩
    | str x =>
      have h' : v = .str x := h
      subst h'
      simp only [lenO] at e
      by_cases hx : x.length ≤ 100000
      · rw [if_pos hx] at e
        cases e
        exact ⟨Nat.le_trans hx (by decide), rfl⟩
      · rw [if_neg hx] at e; cases e
    | _ => exact go e
theorem pc_len : PureC K (fun xs H Q => ∃ x n, xs = [x] ∧ LenV K x H n ∧ Q (.int n) H) gLen := fun c s Hf H vs os Q sub h q => by
  cases os with
  | nil => exact q.elim
  | cons o os =>
    cases os with
    | cons _ _ => exact q.elim
    | nil =>
      obtain ⟨v, e, h1⟩ := rep1 h
      subst e
      cases el : lenO o with
      | none => simp only [gLen, el] at q; exact q.elim
      | some n =>
        simp only [gLen, el] at q
        exact ⟨v, n, rfl, lenO_ok sub h1 el, postE_fz sub q rfl⟩
section
variable {p : Pos}
theorem de_len (hg : Gl X "len") (hm : X.mg "len" = none) (h : DA c X [e] fs) (he : starEach [e] X.env = (false, eval e X.env) :: starEach [] X.env := by rfl) (hpl : (backTo pos (starEach [] X.env)).any (·.1) = false := by rfl) : DE c X (.Call (.Name "len" p) [e] [] pos) (eB gLen fs) :=
  de_B call_len pc_len hg hm PySem.boot_len h (by decide) (by decide) he hpl
end
def g1I (k : Int → D) : List O → Res R
  | [.fz (.int i)] => fzR (k i)
  | _ => .bad
def g2I (k : Int → Int → D) : List O → Res R
  | [.fz (.int i), .fz (.int j)] => fzR (k i j)
  | _ => .bad
theorem pc_1I {k : Int → D} {kv : Int → V} (hk : ∀ i H, Rep K H (k i) (kv i)) : PureC K (fun xs H Q => ∃ i, xs = [.int i] ∧ Q (kv i) H) (g1I k) := fun c s Hf H vs os Q sub h q => by
  unfold g1I at q
  split at q
  · obtain ⟨v, r, e1, h1, h2⟩ := h
    subst e1
    rw [show r = [] from h2, show v = _ from h1]
    exact ⟨_, rfl, postE_fz sub q (hk _ Hf)⟩
  · exact q.elim
theorem pc_2I {k : Int → Int → D} {kv : Int → Int → V} (hk : ∀ i j H, Rep K H (k i j) (kv i j)) : PureC K (fun xs H Q => ∃ i j, xs = [.int i, .int j] ∧ Q (kv i j) H) (g2I k) := fun c s Hf H vs os Q sub h q => by
  unfold g2I at q
  split at q
  · obtain ⟨v, r, e1, h1, v2, r2, e2, h2, h3⟩ := h
    subst e1 e2
    rw [show r2 = [] from h3, show v = _ from h1, show v2 = _ from h2]
    exact ⟨_, _, rfl, postE_fz sub q (hk _ _ Hf)⟩
  · exact q.elim
def gAbs := g1I fun i => .int (if i < 0 then -i else i)
def gMax2 := g2I fun i j => .int (if j > i then j else i)
def gMin2 := g2I fun i j => .int (if j < i then j else i)
theorem pc_abs : PureC K (fun xs H Q => ∃ i, xs = [.int i] ∧ Q (.int (if i < 0 then -i else i)) H) gAbs := pc_1I fun _ _ => rfl
theorem pc_min2 : PureC K (fun xs H Q => ∃ i j, xs = [.int i, .int j] ∧ Q (.int (if j < i then j else i)) H) gMin2 := pc_2I fun _ _ _ => rfl
inductive Ty where | non | bl | int | str | lst | tup | dct
  deriving DecidableEq
def Ty.nm : Ty → String
  | .non => "NoneType"
  | .bl => "bool"
  | .int => "int"
  | .str => "str"
  | .lst => "list"
  | .tup => "tuple"
  | .dct => "dict"
def tyO : O → Option Ty
  | .ls _ => some .lst
  | .tp _ => some .tup
  | .fz .non => some .non
  | .fz (.bl _) => some .bl
  | .fz (.int _) => some .int
  | .fz (.str _) => some .str
  | .fz (.lst _) => some .lst
  | .fz (.tup _) => some .tup
  | .fz (.dck _ _) => some .dct
  | .dk _ _ => some .dct
  | _ => none
def isT : Ty → Ty → Bool
  | .bl, .int => true
  | a, b => decide (a = b)
theorem kit_is : ∀ a b : Ty, kitB a.nm b.nm = some (isT a b) := by
  intro a b
  cases a <;> cases b <;> decide +kernel
theorem tyO_ok {o : O} {v : V} {t : Ty} (s : Same Hf H) (h : RepV K Hf H o v) (e : tyO o = some t) : TyX K H v (.type t.nm) := by
  cases o with
  | ls os =>
    cases e
    obtain ⟨a, vs, e1, h1, _⟩ := h
    subst e1
    exact .base (.lst h1)
  | tp os =>
    cases e
    obtain ⟨a, vs, e1, h1, _⟩ := h
    subst e1
    exact .base (.tup h1)
  | ob _ _ _ => cases e
  | gh _ _ _ => cases e
  | dt ks ds => cases e
  | dk ks ds =>
    cases e
    obtain ⟨a, vs, e1, h1, _⟩ := h
    subst e1
    exact .base (.dK h1)
  | fz d =>
    cases d with
    | non => cases e; have h' : v = .non := h; subst h'; exact .base .non
    | bl b => cases e; have h' : v = .bl b := h; subst h'; exact .base (.bl b)
    | int b => cases e; have h' : v = .int b := h; subst h'; exact .base (.int b)
    | str b => cases e; have h' : v = .str b := h; subst h'; exact .base (.str b)
    | ex _ => cases e
    | scr _ => cases e
    | lst ds =>
      cases e
      obtain ⟨a, vs, e1, h1, _⟩ := h
      subst e1
      exact .base (.lst (s _ _ h1))
    | tup ds =>
      cases e
      obtain ⟨a, vs, e1, h1, _⟩ := h
      subst e1
      exact .base (.tup (s _ _ h1))
    | obj _ _ _ => cases e
    | row _ _ => cases e
    | dct ks ds => cases e
    | dck ks ds =>
      cases e
      obtain ⟨a, vs, e1, h1, _⟩ := h
      subst e1
      exact .base (.dK (s _ _ h1))
def eIsi (T : Ty) (f : FE) : FE := fun r => (f r).bind fun x => match tyO x.a with
  | some t => fzR (.bl (isT t T))
  | none => .bad
theorem de_isi {p : Pos} (T : Ty) (hg : Gl X "isinstance") (hm : X.mg "isinstance" = none) (hT : PE X e (tC (.ty T.nm))) (h : DE c X a f)
    (he : starEach [a, e] X.env = (false, eval a X.env) :: starEach [e] X.env := by rfl) (hpl : (backTo pos (starEach [e] X.env)).any (·.1) = false := by rfl) (hs : starEach [e] X.env = (false, eval e X.env) :: starEach [] X.env := by rfl) :
    DE c X (.Call (.Name "isinstance" p) [a, e] [] pos) (eIsi T f) := by
  obtain ⟨t, pa, s⟩ := h.ex
  refine ⟨tCB (rIsi X.K) (tCons t (tCons (tC (.ty T.nm)) tNil)), pe_callB call_isi hg hm (by decide +kernel) (pa_cons pa (pa_cons hT pa_nil hs) he) (by decide) (by decide) he hpl, fun r s' Hf H L sr Q q => ?_⟩
  refine s.run sr pstE q fun x v Hf1 H1 x1 sr1 a1 q1 => ?_
  cases et : tyO x.a with
  | none => simp only [et] at q1; exact q1.elim
  | some t =>
    simp only [et] at q1
    exact ⟨v, .ty T.nm, _, _, _, rfl, .ty T.nm, tyO_ok sr1.sub (a1.a sr1.same0) et, kit_ty (kit_is t T), postE_fz sr1.sub q1 rfl⟩
def ixO (o : O) (k : Int) : Option O := match o with
  | .fz (.tup ds) => (atI ds k).map .fz
  | .tp os => atI os k
  | .fz (.str x) => if x.length ≤ 100000 then (atI x.cps.toList k).map fun c => .fz (.str ⟨#[c]⟩) else none
  | o => (items o).bind fun os => atI os k
theorem atI_rep {os : List O} {vs : List V} {k : Int} {o : O} (h : RepVs K Hf H os vs) (e : atI os k = some o) : ∃ v, atI vs k = some v ∧ RepV K Hf H o v := by
  unfold atI at e ⊢
  rw [RepVs.length h]
  cases ei : ixN os.length k with
  | none => rw [ei] at e; cases e
  | some j =>
    rw [ei] at e
    obtain ⟨v, h1, h2⟩ := RepVs.get h (show os[j]? = some o from e)
    exact ⟨v, h1, h2⟩
theorem atI_map {α β : Type} {g : α → β} {xs : List α} {k : Int} : atI (xs.map g) k = (atI xs k).map g := by
  unfold atI
  rw [List.length_map]
  cases ixN xs.length k with
  | none => rfl
  | some j => show (xs.map g)[j]? = (xs[j]?).map g; rw [List.getElem?_map]
theorem ixO_ok {o p : O} {v : V} {k : Int} {Q : VK} (s : Same Hf H) (h : RepV K Hf H o v) (e : ixO o k = some p) (q : ∀ w, RepV K Hf H p w → Q w H) : rIx K v (.int k) H Q := by
  have go : ((items o).bind fun os => atI os k) = some p → rIx K v (.int k) H Q := fun e => by
    cases ei : items o with
    | none => rw [ei] at e; cases e
    | some os =>
      rw [ei] at e
      obtain ⟨a, vs, e1, h1, h2⟩ := items_rep s h ei
      obtain ⟨w, hw, rw'⟩ := atI_rep h2 e
      exact .inl ⟨a, vs, k, w, e1, rfl, h1, hw, q w rw'⟩
  cases o with
  | ls os => exact go e
  | tp os =>
    obtain ⟨a, vs, e1, h1, h2⟩ := h
    have e' : atI os k = some p := e
    obtain ⟨w, hw, rw'⟩ := atI_rep h2 e'
    exact .inr (.inl ⟨a, vs, k, w, e1, rfl, SqT.of h1, hw, q w rw'⟩)
  | ob _ _ _ => exact go e
  | dt _ _ => exact go e
  | dk _ _ => exact go e
  | gh _ _ _ => exact go e
  | fz d =>
    cases d with
    | tup ds =>
      obtain ⟨a, vs, e1, h1, h2⟩ := h
      have e' : (atI ds k).map O.fz = some p := e
      rw [← atI_map] at e'
      obtain ⟨w, hw, rw'⟩ := atI_rep (H := H) (reps_fz h2) e'
      exact .inr (.inl ⟨a, vs, k, w, e1, rfl, SqT.of (s _ _ h1), hw, q w rw'⟩)
    | str x =>
      have h' : v = .str x := h
      subst h'
      simp only [ixO] at e
      by_cases hx : x.length ≤ 100000
      · rw [if_pos hx] at e
        cases ea : atI x.cps.toList k with
        | none => rw [ea] at e; cases e
        | some cc =>
          rw [ea] at e
          cases e
          exact .inr (.inr ⟨x, k, cc, rfl, rfl, Nat.le_trans hx (by decide), ea, q _ rfl⟩)
      · rw [if_neg hx] at e; cases e
    | _ => exact go e
def eIx (f g : FE) : FE := fun r => (f r).bind fun x => (g r).bind fun y => match y.a with
  | .fz (.int k) => (match x with
    | .nw o => (match ixO (.fz (er o)) k with | some (.fz d) => fzR d | _ => .bad)
    | .vw o => (match ixO o k with | some p => .ok (see true p) | none => .bad)
    | .bw o => (match ixO o k with | some p => .ok (see false p) | none => .bad))
  | _ => .bad
theorem de_ix (ha : DE c X a f) (hb : DE c X b g) (hs : PlainIx b := by exact fun _ _ => rfl) : DE c X (.Subscript a b pos) (eIx f g) := by
  obtain ⟨ta, pa, sa⟩ := ha.ex
  obtain ⟨tb, pb, sb⟩ := hb.ex
  refine ⟨tOp (rIx X.K) ta tb, pe_ix ix_seq pa pb hs, fun r s Hf H L sr Q q => ?_⟩
  refine sa.run sr pstE q fun x v Hf1 H1 x1 sr1 a1 q1 => ?_
  refine sb.run sr1 pstE q1 fun y w Hf2 H2 x2 sr2 a2 q2 => ?_
  have a1' := a1.mono x2.fsame x2.same
  have b2 := a2.a sr2.same0
  cases ey : y.a with
  | ls _ => simp only [ey] at q2; exact q2.elim
  | tp _ => simp only [ey] at q2; exact q2.elim
  | ob _ _ _ => simp only [ey] at q2; exact q2.elim
  | dt _ _ => simp only [ey] at q2; exact q2.elim
  | dk _ _ => simp only [ey] at q2; exact q2.elim
  | gh _ _ _ => simp only [ey] at q2; exact q2.elim
  | fz d =>
    cases d with
    | int k =>
      simp only [ey] at q2
      rw [ey] at b2
      have b3 : w = .int k := b2
      subst b3
      cases x with
      | nw o =>
        cases ei : ixO (.fz (er o)) k with
        | none => simp only [ei] at q2; exact q2.elim
        | some p =>
          cases p with
          | ls _ => simp only [ei] at q2; exact q2.elim
          | tp _ => simp only [ei] at q2; exact q2.elim
          | ob _ _ _ => simp only [ei] at q2; exact q2.elim
          | dt _ _ => simp only [ei] at q2; exact q2.elim
          | dk _ _ => simp only [ei] at q2; exact q2.elim
          | gh _ _ _ => simp only [ei] at q2; exact q2.elim
          | fz d =>
            simp only [ei] at q2
            exact ixO_ok (o := .fz (er o)) sr2.sub a1' ei fun w hw => postE_fz sr2.sub q2 hw
      | vw o =>
        cases ei : ixO o k with
        | none => simp only [ei] at q2; exact q2.elim
        | some p =>
          simp only [ei] at q2
          refine ixO_ok sr2.sub a1' ei fun w hw => q2 w Hf2 H2 [] (Ext.refl sr2.sub) ?_ nw_nil
          cases p with
          | fz d => exact ⟨hw, rfl⟩
          | ls os => exact ⟨hw, rfl⟩
          | tp os => exact ⟨hw, rfl⟩
          | ob _ _ _ => exact ⟨hw, rfl⟩
          | dt _ _ => exact ⟨hw, rfl⟩
          | dk _ _ => exact ⟨hw, rfl⟩
          | gh _ _ _ => exact ⟨hw, rfl⟩
      | bw o =>
        cases ei : ixO o k with
        | none => simp only [ei] at q2; exact q2.elim
        | some p =>
          simp only [ei] at q2
          cases o with
          | fz d0 =>
            have hd : ∃ d', p = .fz d' := by
              cases d0 with
              | tup ds =>
                cases ea : atI ds k with
                | none => simp [ixO, ea] at ei
                | some d' => simp [ixO, ea] at ei; exact ⟨d', ei.symm⟩
              | str x =>
                simp only [ixO] at ei
                by_cases hx : x.length ≤ 100000
                · rw [if_pos hx] at ei
                  cases ea : atI x.cps.toList k with
                  | none => rw [ea] at ei; cases ei
                  | some cc => rw [ea] at ei; cases ei; exact ⟨_, rfl⟩
                · rw [if_neg hx] at ei; cases ei
              | lst ds =>
                have ei' : atI (ds.map O.fz) k = some p := ei
                rw [atI_map] at ei'
                cases ea : atI ds k with
                | none => rw [ea] at ei'; cases ei'
                | some d' => rw [ea] at ei'; cases ei'; exact ⟨_, rfl⟩
              | scr ns =>
                have ei' : atI (ns.map fun n => O.fz (.int n)) k = some p := ei
                rw [atI_map] at ei'
                cases ea : atI ns k with
                | none => rw [ea] at ei'; cases ei'
                | some d' => rw [ea] at ei'; cases ei'; exact ⟨_, rfl⟩
              | _ => cases ei
            obtain ⟨d', rfl⟩ := hd
            exact ixO_ok (o := .fz d0) sr2.sub a1' ei fun w hw => postE_fz sr2.sub q2 hw
          | ob _ _ _ => cases ei
          | dt _ _ => cases ei
          | dk _ _ => cases ei
          | gh _ _ _ => cases ei
          | ls os =>
            obtain ⟨a, vs, e1, h1, h2⟩ := a1'
            obtain ⟨w, hw, rw'⟩ := atI_rep h2 (show atI os k = some p from ei)
            refine .inl ⟨a, vs, k, w, e1, rfl, SqL.of (sr2.same0.lst h1), hw, q2 w Hf2 H2 [] (Ext.refl sr2.sub) ?_ nw_nil⟩
            cases p with
            | fz d => exact ⟨rw', rfl⟩
            | ls os => exact ⟨rw', rfl⟩
            | tp os => exact ⟨rw', rfl⟩
            | ob _ _ _ => exact ⟨rw', rfl⟩
            | dt _ _ => exact ⟨rw', rfl⟩
            | dk _ _ => exact ⟨rw', rfl⟩
            | gh _ _ _ => exact ⟨rw', rfl⟩
          | tp os =>
            obtain ⟨a, vs, e1, h1, h2⟩ := a1'
            obtain ⟨w, hw, rw'⟩ := atI_rep h2 (show atI os k = some p from ei)
            refine .inr (.inl ⟨a, vs, k, w, e1, rfl, SqT.of (sr2.same0.tup h1), hw, q2 w Hf2 H2 [] (Ext.refl sr2.sub) ?_ nw_nil⟩)
            cases p with
            | fz d => exact ⟨rw', rfl⟩
            | ls os => exact ⟨rw', rfl⟩
            | tp os => exact ⟨rw', rfl⟩
            | ob _ _ _ => exact ⟨rw', rfl⟩
            | dt _ _ => exact ⟨rw', rfl⟩
            | dk _ _ => exact ⟨rw', rfl⟩
            | gh _ _ _ => exact ⟨rw', rfl⟩
    | _ => simp only [ey] at q2; exact q2.elim
end DL
namespace DL
open PySem L2
variable {c : Cn} {X : Cx} {a b e : Expr} {es : List Expr} {f g fa fb : FE} {pos : Pos} {fs : Env → Res (List O)} {K : PySem.W.Frag} {H0 H H' Hf Hf' : Hp} {F G : FS} {st : Stmt} {sts : List Stmt} {ft : Env → Res Bool}
theorem items_lst {o : O} {os : List O} {v : V} (s : Same Hf H) (h : RepV K Hf H o v) (e : items o = some os) (hs : ∀ ns, o ≠ .fz (.scr ns)) : ∃ a vs, v = .ref a ∧ H a = some (.lst vs) ∧ RepVs K Hf H os vs := by
  cases o with
  | ls os' =>
    have e' : os' = os := Option.some.inj e
    subst e'
    exact h
  | tp _ => cases e
  | ob _ _ _ => cases e
  | dt _ _ => cases e
  | dk _ _ => cases e
  | gh _ _ _ => cases e
  | fz d =>
    cases d with
    | lst ds =>
      have e' : ds.map O.fz = os := Option.some.inj e
      subst e'
      obtain ⟨a, vs, e1, h1, h2⟩ := h
      exact ⟨a, vs, e1, s _ _ h1, reps_fz h2⟩
    | scr ns => exact absurd rfl (hs ns)
    | non => cases e
    | bl b => cases e
    | int i => cases e
    | str x => cases e
    | ex c => cases e
    | tup ds => cases e
    | obj _ _ _ => cases e
    | row _ _ => cases e
    | dct _ _ => cases e
    | dck _ _ => cases e
def isScr : O → Bool
  | .fz (.scr _) => true
  | _ => false
theorem isScr_no {o : O} (h : isScr o = false) : ∀ ns, o ≠ .fz (.scr ns) := fun ns e => by subst e; cases h
def lsR (os : List O) : Res R := if os.length ≤ 100000 then (if allFz os then .ok (.nw (.ls os)) else .ok (.vw (.ls os))) else .bad
theorem lsR_len {os : List O} {c : Cn} {s : St} {Q : VK} (q : PostE c K s Hf H Q (lsR os)) : os.length ≤ 100000 := by
  unfold lsR at q
  by_cases h : os.length ≤ 100000
  · exact h
  · rw [if_neg h] at q; exact q.elim
theorem lsR_ok {os : List O} {vs : List V} {c : Cn} {s : St} {Q : VK} {p : Addr} (sub : Same Hf H) (q : PostE c K s Hf H Q (lsR os)) (hr : RepVs K Hf H os vs) (hp : H p = none) : Q (.ref p) (upd H p (.lst vs)) := by
  unfold lsR at q
  by_cases h : os.length ≤ 100000
  · rw [if_pos h] at q
    by_cases ha : allFz os = true
    · rw [if_pos ha] at q; exact postE_ls sub q ha hr hp
    · rw [if_neg ha] at q
      have x := Ext.new (o := .lst vs) sub hp
      exact q (.ref p) Hf _ [] x ⟨⟨p, vs, rfl, upd_same, RepVs.mono (Same.refl _) x.same os vs hr⟩, rfl⟩ ⟨List.nodup_nil, fun _ h => nomatch h⟩
  · rw [if_neg h] at q; exact q.elim
def gCat : O → O → Res R := fun a b => if isScr a || isScr b then .bad else match items a, items b with
  | some xs, some ys => lsR (xs ++ ys)
  | _, _ => .bad
theorem pr_cat : PureR K rCat gCat := fun c s Hf H x y a b Q sub ha hb q => by
  unfold gCat at q
  by_cases hs : (isScr a || isScr b) = true
  · rw [if_pos hs] at q; exact q.elim
  · rw [if_neg hs] at q
    simp only [Bool.or_eq_true, not_or, Bool.not_eq_true] at hs
    cases ea : items a with
    | none => simp only [ea] at q; exact q.elim
    | some xs =>
      cases eb : items b with
      | none => simp only [ea, eb] at q; exact q.elim
      | some ys =>
        simp only [ea, eb] at q
        have l2 := lsR_len q
        obtain ⟨p, vs, e1, h1, h2⟩ := items_lst sub ha ea (isScr_no hs.1)
        obtain ⟨p2, ws, e2, h3, h4⟩ := items_lst sub hb eb (isScr_no hs.2)
        rw [List.length_append] at l2
        exact ⟨p, p2, vs, ws, e1, e2, h1, h3, by rw [RepVs.length h2, RepVs.length h4]; exact Nat.le_trans l2 (by decide), fun l hl => lsR_ok sub q (h2.append h4) hl⟩
def repL {α : Type} (xs : List α) (k : Nat) : List α := (List.replicate k xs).flatten
theorem repVs_rep {os : List O} {vs : List V} (h : RepVs K Hf H os vs) : ∀ k, RepVs K Hf H (repL os k) (repL vs k)
  | 0 => rfl
  | k + 1 => by
    unfold repL
    rw [List.replicate_succ, List.replicate_succ, List.flatten_cons, List.flatten_cons]
    exact h.append (repVs_rep h k)
def gRep : O → O → Res R
  | a, .fz (.int k) => if isScr a || !small62 k then .bad else (match items a with
    | some xs => if xs.length * k.toNat ≤ 100000 then lsR (repL xs k.toNat) else .bad
    | none => .bad)
  | _, _ => .bad
theorem pr_rep : PureR K rRep gRep := fun c s Hf H x y a b Q sub ha hb q => by
  cases b with
  | ls _ => exact q.elim
  | tp _ => exact q.elim
  | ob _ _ _ => exact q.elim
  | dt _ _ => exact q.elim
  | dk _ _ => exact q.elim
  | gh _ _ _ => exact q.elim
  | fz d =>
    cases d with
    | int k =>
      have hb' : y = .int k := hb
      subst hb'
      have q' : PostE c K s Hf H Q (if isScr a || !small62 k then .bad else (match items a with
        | some xs => if xs.length * k.toNat ≤ 100000 then lsR (repL xs k.toNat) else .bad
        | none => .bad)) := q
      by_cases hs : (isScr a || !small62 k) = true
      · rw [if_pos hs] at q'; exact q'.elim
      · rw [if_neg hs] at q'
        simp only [Bool.or_eq_true, not_or, Bool.not_eq_true, Bool.not_eq_true', Bool.not_eq_false] at hs
        have hk := of_decide_eq_true hs.2
        cases ea : items a with
        | none => simp only [ea] at q'; exact q'.elim
        | some xs =>
          simp only [ea] at q'
          by_cases hz : xs.length * k.toNat ≤ 100000
          · rw [if_pos hz] at q'
            have l2 := lsR_len q'
            obtain ⟨p, vs, e1, h1, h2⟩ := items_lst sub ha ea (isScr_no hs.1)
            exact ⟨p, k, vs, e1, rfl, h1, by omega, by omega, by rw [RepVs.length h2]; exact Nat.le_trans hz (by decide), fun l hl => lsR_ok sub q' (repVs_rep h2 _) hl⟩
          · rw [if_neg hz] at q'; exact q'.elim
    | _ => exact q.elim
theorem PureR.or {r1 r2 : R2} {g1 g2 : O → O → Res R} (C : O → O → Bool) (h1 : PureR K r1 g1) (h2 : PureR K r2 g2) : PureR K (fun x y H Q => r1 x y H Q ∨ r2 x y H Q) (fun a b => if C a b then g1 a b else g2 a b) := fun c s Hf H x y a b Q sub ha hb q => by
  dsimp only at q
  by_cases h : C a b = true
  · rw [if_pos h] at q; exact .inl (h1 c s Hf H x y a b Q sub ha hb q)
  · rw [if_neg h] at q; exact .inr (h2 c s Hf H x y a b Q sub ha hb q)
def gCatS : O → O → Res R
  | .fz (.str x), .fz (.str y) => if x.length + y.length ≤ 100000 then fzR (.str (x ++ y)) else .bad
  | _, _ => .bad
theorem pr_catS : PureR K (fun x y H Q => ∃ i j, x = .str i ∧ y = .str j ∧ i.length + j.length ≤ sizeLine ∧ Q (.str (i ++ j)) H) gCatS := fun c s Hf H x y a b Q sub ha hb q => by
  cases a with
  | ls _ => exact q.elim
  | tp _ => exact q.elim
  | ob _ _ _ => exact q.elim
  | dt _ _ => exact q.elim
  | dk _ _ => exact q.elim
  | gh _ _ _ => exact q.elim
  | fz d => cases d with
    | str z => cases b with
      | ls _ => exact q.elim
      | tp _ => exact q.elim
      | ob _ _ _ => exact q.elim
      | dt _ _ => exact q.elim
      | dk _ _ => exact q.elim
      | gh _ _ _ => exact q.elim
      | fz d => cases d with
        | str z2 =>
          have q' : PostE c K s Hf H Q (if z.length + z2.length ≤ 100000 then fzR (.str (z ++ z2)) else .bad) := q
          by_cases hl : z.length + z2.length ≤ 100000
          · rw [if_pos hl] at q'
            exact ⟨z, z2, ha, hb, Nat.le_trans hl (by decide), postE_fz sub q' rfl⟩
          · rw [if_neg hl] at q'; exact q'.elim
        | _ => exact q.elim
    | _ => exact q.elim
def isI : O → O → Bool
  | .fz (.int _), _ => true
  | _, _ => false
def isS : O → O → Bool
  | .fz (.str _), _ => true
  | _, _ => false
def gAddA : O → O → Res R := fun a b => if isI a b then gAdd a b else if isS a b then gCatS a b else gCat a b
def gMulA : O → O → Res R := fun a b => if isI a b then gMul a b else gRep a b
theorem de_addA (ha : DE c X a fa) (hb : DE c X b fb) : DE c X (.BinOp a .Add b pos) (eOp gAddA fa fb) :=
  de_op (op_add.or (op_add_str.or op_cat)) (PureR.or isI (pure_I0 fun _ _ _ => rfl) (PureR.or isS pr_catS pr_cat)) ha hb
theorem de_mulA (ha : DE c X a fa) (hb : DE c X b fb) : DE c X (.BinOp a .Mult b pos) (eOp gMulA fa fb) :=
  de_op (op_mulH.or op_rep) (PureR.or isI (pure_I (fun i j h => by unfold CMulH; exact of_decide_eq_true h) fun _ _ _ => rfl) pr_rep) ha hb
mutual
def py : D → Option PyData
  | .non => some .none
  | .bl b => some (.bool b)
  | .int i => some (.int i)
  | .str x => some (.str x)
  | .lst ds => (pys ds).map .list
  | .tup ds => (pys ds).map .tuple
  | _ => none
def pys : List D → Option (List PyData)
  | [] => some []
  | d :: ds => (py d).bind fun p => (pys ds).map (p :: ·)
end
mutual
theorem dp_of : ∀ {d : D} {p : PyData} {v : V}, py d = some p → Rep K H d v → Dp K H v p
  | .non, p, v, e, h => by have h' : v = .non := h; subst h'; cases e; exact .non
  | .bl b, p, v, e, h => by have h' : v = .bl b := h; subst h'; cases e; exact .bl b
  | .int b, p, v, e, h => by have h' : v = .int b := h; subst h'; cases e; exact .int b
  | .str b, p, v, e, h => by have h' : v = .str b := h; subst h'; cases e; exact .str b
  | .lst ds, p, v, e, h => by
    obtain ⟨a, vs, e1, h1, h2⟩ := h
    subst e1
    cases e2 : pys ds with
    | none => simp [py, e2] at e
    | some ps =>
      have e' : PyData.list ps = p := by simpa [py, e2] using e
      subst e'
      exact .lst (SqL.of h1) (dps_of e2 h2)
  | .tup ds, p, v, e, h => by
    obtain ⟨a, vs, e1, h1, h2⟩ := h
    subst e1
    cases e2 : pys ds with
    | none => simp [py, e2] at e
    | some ps =>
      have e' : PyData.tuple ps = p := by simpa [py, e2] using e
      subst e'
      exact .tup (SqT.of h1) (dps_of e2 h2)
  | .scr _, _, _, e, _ => by simp [py] at e
  | .ex _, _, _, e, _ => by simp [py] at e
  | .obj _ _ _, _, _, e, _ => by simp [py] at e
  | .row _ _, _, _, e, _ => by simp [py] at e
  | .dct _ _, _, _, e, _ => by simp [py] at e
  | .dck _ _, _, _, e, _ => by simp [py] at e
theorem dps_of : ∀ {ds : List D} {ps : List PyData} {vs : List V}, pys ds = some ps → Reps K H ds vs → DpAll K H vs ps
  | [], ps, vs, e, h => by
    have h' : vs = [] := h
    subst h'
    have e' : [] = ps := by simpa [pys] using e
    subst e'
    exact .nil
  | d :: ds, ps, vs, e, h => by
    obtain ⟨v, r, e1, h1, h2⟩ := h
    subst e1
    cases e2 : py d with
    | none => simp [pys, e2] at e
    | some p =>
      cases e3 : pys ds with
      | none => simp [pys, e2, e3] at e
      | some qs =>
        have e' : p :: qs = ps := by simpa [pys, e2, e3] using e
        subst e'
        exact .cons (dp_of e2 h1) (dps_of e3 h2)
end
mutual
theorem RepV.rep (s : Same Hf H) : ∀ (o : O) (v : V), RepV K Hf H o v → Rep K H (er o) v
  | .fz d, v, h => Rep.mono s d v h
  | .ls os, v, h => by
    obtain ⟨a, vs, e1, h1, h2⟩ := h
    exact ⟨a, vs, e1, h1, RepVs.rep s os vs h2⟩
  | .tp os, v, h => by
    obtain ⟨a, vs, e1, h1, h2⟩ := h
    exact ⟨a, vs, e1, h1, RepVs.rep s os vs h2⟩
  | .ob c ns os, v, h => by
    obtain ⟨a, dx, vs, e1, h1, h3, h4, h2, _⟩ := h
    exact ⟨a, dx, vs, e1, h1, h3, by rw [h4, ers_eq, List.length_map], RepVs.rep s os vs h2⟩
  | .dt ks ds, v, h => by
    obtain ⟨a, vs, e1, h1, h3, h2⟩ := h
    exact ⟨a, vs, e1, h1, h3, Reps.mono s ds vs h2⟩
  | .dk ks ds, v, h => by
    obtain ⟨a, vs, e1, h1, h3, h2⟩ := h
    exact ⟨a, vs, e1, h1, h3, Reps.mono s ds vs h2⟩
  | .gh o _ _, v, h => RepV.rep s o v h
theorem RepVs.rep (s : Same Hf H) : ∀ (os : List O) (vs : List V), RepVs K Hf H os vs → Reps K H (ers os) vs
  | [], _, h => h
  | o :: os, _, h => by
    obtain ⟨v, r, e1, h1, h2⟩ := h
    exact ⟨v, r, e1, RepV.rep s o v h1, RepVs.rep s os r h2⟩
end
def eqD (d e : D) : Option Bool := match py d, py e with
  | some p, some q => if SeqAt.shaped p && SeqAt.shaped q then some (PyData.eqv p q) else none
  | _, _ => none
def gEqD (a b : O) : Res R := match eqD (er a) (er b) with
  | some k => fzR (.bl k)
  | none => .bad
def gNeD (a b : O) : Res R := match eqD (er a) (er b) with
  | some k => fzR (.bl (!k))
  | none => .bad
def gEq : O → O → Res R
  | .fz (.int i), .fz (.int j) => fzR (.bl (decide (i = j)))
  | a, b => gEqD a b
def gNe : O → O → Res R
  | .fz (.int i), .fz (.int j) => fzR (.bl (!decide (i = j)))
  | a, b => gNeD a b
theorem eqD_ok {x y : V} {a b : O} {k : Bool} (sub : Same Hf H) (ha : RepV K Hf H a x) (hb : RepV K Hf H b y) (e : eqD (er a) (er b) = some k) :
    ∃ p q, Dp K H x p ∧ Dp K H y q ∧ SeqAt.shaped p = true ∧ SeqAt.shaped q = true ∧ PyData.eqv p q = k := by
  unfold eqD at e
  split at e
  · rename_i p q e1 e2
    by_cases hs : (SeqAt.shaped p && SeqAt.shaped q) = true
    · rw [if_pos hs] at e
      rw [Bool.and_eq_true] at hs
      exact ⟨p, q, dp_of e1 (RepV.rep sub a x ha), dp_of e2 (RepV.rep sub b y hb), hs.1, hs.2, Option.some.inj e⟩
    · rw [if_neg hs] at e; cases e
  · cases e
theorem pr_eqD : PureR K (rEqD K) gEqD := fun c s Hf H x y a b Q sub ha hb q => by
  unfold gEqD at q
  cases e : eqD (er a) (er b) with
  | none => simp only [e] at q; exact q.elim
  | some k =>
    simp only [e] at q
    obtain ⟨p, p2, h1, h2, h3, h4, h5⟩ := eqD_ok sub ha hb e
    exact ⟨p, p2, h1, h2, h3, h4, by rw [h5]; exact postE_fz sub q rfl⟩
theorem pr_neD : PureR K (rNeD K) gNeD := fun c s Hf H x y a b Q sub ha hb q => by
  unfold gNeD at q
  cases e : eqD (er a) (er b) with
  | none => simp only [e] at q; exact q.elim
  | some k =>
    simp only [e] at q
    obtain ⟨p, p2, h1, h2, h3, h4, h5⟩ := eqD_ok sub ha hb e
    exact ⟨p, p2, h1, h2, h3, h4, by rw [h5]; exact postE_fz sub q rfl⟩
theorem shaped_int (i : Int) : SeqAt.shaped (.int i) = true := rfl
theorem eqv_int (i j : Int) : PyData.eqv (.int i) (.int j) = decide (i = j) := by
  show (i == j) = _
  by_cases h : i = j
  · subst h; simp
  · rw [decide_eq_false h]; exact beq_eq_false_iff_ne.mpr h
theorem int_cases (a b : O) : (∃ i j, a = .fz (.int i) ∧ b = .fz (.int j)) ∨ (gEq a b = gEqD a b ∧ gNe a b = gNeD a b) := by
  cases a with
  | ls _ => exact .inr ⟨rfl, rfl⟩
  | tp _ => exact .inr ⟨rfl, rfl⟩
  | ob _ _ _ => exact .inr ⟨rfl, rfl⟩
  | dt _ _ => exact .inr ⟨rfl, rfl⟩
  | dk _ _ => exact .inr ⟨rfl, rfl⟩
  | gh _ _ _ => exact .inr ⟨rfl, rfl⟩
  | fz d => cases d with
    | int i => cases b with
      | ls _ => exact .inr ⟨rfl, rfl⟩
      | tp _ => exact .inr ⟨rfl, rfl⟩
      | ob _ _ _ => exact .inr ⟨rfl, rfl⟩
      | dt _ _ => exact .inr ⟨rfl, rfl⟩
      | dk _ _ => exact .inr ⟨rfl, rfl⟩
      | gh _ _ _ => exact .inr ⟨rfl, rfl⟩
      | fz d => cases d with
        | int j => exact .inl ⟨i, j, rfl, rfl⟩
        | _ => exact .inr ⟨rfl, rfl⟩
    | _ => exact .inr ⟨rfl, rfl⟩
theorem pr_eq : PureR K (rEqD K) gEq := fun c s Hf H x y a b Q sub ha hb q => by
  rcases int_cases a b with ⟨i, j, rfl, rfl⟩ | ⟨e1, _⟩
  · have h1 : x = .int i := ha
    have h2 : y = .int j := hb
    subst h1 h2
    exact ⟨.int i, .int j, .int i, .int j, shaped_int i, shaped_int j, by rw [eqv_int]; exact postE_fz sub q rfl⟩
  · rw [e1] at q; exact pr_eqD c s Hf H x y a b Q sub ha hb q
theorem pr_ne : PureR K (rNeD K) gNe := fun c s Hf H x y a b Q sub ha hb q => by
  rcases int_cases a b with ⟨i, j, rfl, rfl⟩ | ⟨_, e1⟩
  · have h1 : x = .int i := ha
    have h2 : y = .int j := hb
    subst h1 h2
    exact ⟨.int i, .int j, .int i, .int j, shaped_int i, shaped_int j, by rw [eqv_int]; exact postE_fz sub q rfl⟩
  · rw [e1] at q; exact pr_neD c s Hf H x y a b Q sub ha hb q
section
variable {k : Nat}
theorem dt_eq (B : Bk c X k) (ha : DE c X a fa) (hb : DE c X b fb) : DT c X (.Compare a [.Eq] [b] pos) (tOf (eOp gEq fa fb)) := dt_cmp (op_eqD B.hr.units) pr_eq ha hb (nomark _)
theorem dt_ne (B : Bk c X k) (ha : DE c X a fa) (hb : DE c X b fb) : DT c X (.Compare a [.NotEq] [b] pos) (tOf (eOp gNe fa fb)) := dt_cmp (op_neD B.hr.units) pr_ne ha hb (nomark _)
end
theorem RepVs.drop : ∀ {os : List O} {vs : List V} (n : Nat), RepVs K Hf H os vs → RepVs K Hf H (os.drop n) (vs.drop n)
  | [], _, n, h => by have h' : _ = _ := h; subst h'; cases n <;> rfl
  | o :: os, _, 0, h => h
  | o :: os, _, n + 1, h => by
    obtain ⟨v, r, e, h1, h2⟩ := h
    subst e
    exact RepVs.drop n h2
theorem RepVs.take : ∀ {os : List O} {vs : List V} (n : Nat), RepVs K Hf H os vs → RepVs K Hf H (os.take n) (vs.take n)
  | [], _, n, h => by have h' : _ = _ := h; subst h'; cases n <;> rfl
  | o :: os, _, 0, h => rfl
  | o :: os, _, n + 1, h => by
    obtain ⟨v, r, e, h1, h2⟩ := h
    subst e
    exact ⟨v, _, rfl, h1, RepVs.take n h2⟩
def FP := Env → Res (Option Int)
def pNone : FP := fun _ => .ok none
def PostP (c : Cn) (K : PySem.W.Frag) (s : St) (Hf H : Hp) (Q : Option Int → Hp → Prop) : Res (Option Int) → Prop
  | .ok b => ∀ Hf' H', Ext Hf H Hf' H' → Q b H'
  | .exc e => PostX c K s Hf H e
  | .bad => False
def SoP (c : Cn) (K : PySem.W.Frag) (t : TO) (f : FP) : Prop := ∀ r s Hf H L, c.SR K r s Hf H L → ∀ Q, PostP c K s Hf H Q (f r) → t s H Q
structure DP (c : Cn) (X : Cx) (e : Option Expr) (f : FP) : Prop where
  ex : ∃ t, PO X e t ∧ SoP c X.K t f
theorem SoP.run {t : TO} {fp : FP} {r : Env} {s : St} {L : List Addr} (h : SoP c K t fp) (sr : c.SR K r s Hf H L) {β : Type} {post : Hp → Hp → Res β → Prop} (P : Pst c K s post) {k : Option Int → Res β} (hp : post Hf H ((fp r).bind k)) {Q : Option Int → Hp → Prop}
    (hq : ∀ b Hf1 H1, Ext Hf H Hf1 H1 → c.SR K r s Hf1 H1 L → post Hf1 H1 (k b) → Q b H1) : t s H Q := by
  refine h r s Hf H L sr Q ?_
  cases e : fp r with
  | bad => rw [e] at hp; exact absurd hp (P.bad _ _)
  | exc e' => rw [e] at hp; exact P.exc _ _ _ hp
  | ok x =>
    rw [e] at hp
    intro Hf1 H1 x1
    exact hq x Hf1 H1 x1 (sr.mono x1) (P.mono _ _ _ _ _ x1 hp)
def newO : R → Option O
  | .nw o => some o
  | _ => none
def lcL (fg : FG) (ft : Env → Res Bool) (f : FE) (r : Env) : List R → List O → Res R
  | [], acc => .ok (.nw (.ls acc))
  | x :: xs, acc => match fg x r with
    | none => .bad
    | some r1 => (match ft r1 with
      | .ok true => (match f r1 with
        | .ok y => (match newO y with
          | some o => if acc.length ≤ 100000 then lcL fg ft f r xs (acc ++ [o]) else .bad
          | none => .bad)
        | _ => .bad)
      | .ok false => lcL fg ft f r xs acc
      | _ => .bad)
def wipeE (r : Env) : List Nat → Env
  | [] => r
  | v :: vs => (wipeE r vs).set v S.un
def tYesD : Env → Res Bool := fun _ => .ok true
theorem SR.wipe {r : Env} {s : St} {L : List Addr} (sr : c.SR K r s Hf H L) : ∀ vs : List Nat, (∀ v ∈ vs, v < r.length) → ∃ L', c.SR K (wipeE r vs) (wipe s vs) Hf H L' ∧ (wipeE r vs).length = r.length ∧ ∀ a ∈ L', a ∈ L
  | [], _ => ⟨L, sr, rfl, fun _ h => h⟩
  | v :: vs, hv => by
    obtain ⟨L', sr', hl, hs⟩ := SR.wipe sr vs fun w hw => hv w (List.mem_cons_of_mem _ hw)
    have hi : v < (wipeE r vs).length := by rw [hl]; exact hv v List.mem_cons_self
    obtain ⟨z, hz⟩ : ∃ z, (wipeE r vs)[v]? = some z := ⟨(wipeE r vs)[v], by simp [hi]⟩
    obtain ⟨w, A, M, B, h1, h2, h3, h4⟩ := sr'.env.at hz
    have sub2 : ∀ a ∈ A ++ [] ++ B, a ∈ L' := fun a ha => by
      rw [h2]; simp only [List.mem_append, List.not_mem_nil, or_false] at ha ⊢
      rcases ha with ha | ha
      · exact .inl (.inl ha)
      · exact .inr ha
    refine ⟨A ++ [] ++ B, ⟨sr'.ext, h4 Hf H .un none [] (Same.refl _) Tst.rf (fun _ _ _ e => e) rfl, ?_, fun a ha => sr'.fr a (sub2 a ha), fun a ha => sr'.ok a (sub2 a ha), sr'.rows⟩, by unfold wipeE; rw [List.length_set]; exact hl, fun a ha => hs a (sub2 a ha)⟩
    have nd := sr'.nd
    rw [h2] at nd
    simp only [List.nodup_append, List.mem_append] at nd
    simp only [List.append_nil, List.nodup_append]
    obtain ⟨⟨n1, n2, d1⟩, n3, d2⟩ := nd
    exact ⟨n1, n3, fun a ha b hb => d2 a (.inl ha) b hb⟩
theorem wipe_out {i : Nat} {v : Option V} : ∀ {vs : List Nat} {s : St}, i ∉ vs → wipe (s.set i v) vs = (wipe s vs).set i v
  | [], _, _ => rfl
  | k :: vs, s, hk => by
    simp only [List.mem_cons, not_or] at hk
    show (wipe (s.set i v) vs).set k none = ((wipe s vs).set k none).set i v
    rw [wipe_out hk.2, List.set_comm _ _ hk.1]
theorem wipe_wipe {s : St} : ∀ {vs : List Nat}, wipe (wipe s vs) vs = wipe s vs
  | [] => rfl
  | v :: vs => by
    show (wipe ((wipe s vs).set v none) vs).set v none = (wipe s vs).set v none
    by_cases h : v ∈ vs
    · rw [wipe_set h, wipe_wipe]
    · rw [wipe_out h, wipe_wipe, List.set_set]
theorem RepOs.append : ∀ {os : List O} {vs : List V} {M : List Addr} {o : O} {v : V} {L : List Addr}, RepOs K Hf H os vs M → RepO K Hf H o v L → RepOs K Hf H (os ++ [o]) (vs ++ [v]) (M ++ L)
  | [], _, _, o, v, L, h, h2 => by
    obtain ⟨h3, h4⟩ := h
    subst h3 h4
    exact ⟨v, [], L, [], rfl, by simp, h2, rfl, rfl⟩
  | x :: os, _, _, o, v, L, h, h2 => by
    obtain ⟨w, r, L1, L2, e1, e2, h3, h4⟩ := h
    subst e1 e2
    exact ⟨w, _, L1, L2 ++ L, rfl, by simp [List.append_assoc], h3, RepOs.append h4 h2⟩
def Cn.blk (c : Cn) : Cn := ⟨c.Hf0, c.H0, fun _ _ _ _ => False⟩
theorem so_lc {wi : TI} {g : TG} {tt : TT} {te : TE} {fi : Env → Res (List R)} {fg : FG} {vs : List Nat} (hi : SoI c K wi fi) (hg : SoG c.blk K g fg vs) (ht : SoT c.blk K tt ft) (he : SoE c.blk K te f) :
    SoE c K (tLc wi g tt te vs) (fun r => (fi r).bind fun its => if vs.all (· < r.length) then lcL fg ft f (wipeE r vs) its [] else .bad) := fun r s Hf0 H L sr Q q => by
  refine hi r s Hf0 H L sr _ ?_
  cases ei : fi r with
  | bad => simp only [ei, Res.bind] at q; exact q.elim
  | exc e' => simp only [ei, Res.bind] at q; exact q
  | ok its =>
    simp only [ei, Res.bind] at q
    by_cases hvs : vs.all (· < r.length) = true
    · rw [if_pos hvs] at q
      have hv' : ∀ v ∈ vs, v < r.length := fun v hv => of_decide_eq_true (List.all_eq_true.mp hvs v hv)
      intro J Hf1 H1 x1 wk D hD
      have sr1 := sr.mono x1
      have q := (pstE (c := c) (K := K) (s := s) (Q := Q)).mono _ _ _ _ _ x1 q
      refine ⟨fun i m H => m = its.length - i ∧ i ≤ its.length ∧ ∃ Hf acc us M, Ext Hf1 H1 Hf H ∧ H D = some (.lst us) ∧ RepOs K Hf H acc us M ∧ Nw H1 Hf H (D :: M) ∧ PostE c K s Hf1 H1 Q (lcL fg ft f (wipeE r vs) (its.drop i) acc),
        ⟨its.length, by simp, Nat.zero_le _, Hf1, [], [], [], Ext.new sr1.sub hD, upd_same, ⟨rfl, rfl⟩, ⟨by simp, fun a ha => ?_⟩, by simpa using q⟩, ?_⟩
      · have e : a = D := by simpa using ha
        subst e
        exact ⟨hD, sub_none sr1.sub hD, by rw [upd_same]; simp⟩
      rintro i m H ⟨rfl, hle, Hf, acc, us, M, x2, hDl, ha, nw, q⟩
      have sr2 := sr1.mono x2
      obtain ⟨w1, w2⟩ := wk Hf H x2.fsame x2.sub sr2.same0
      by_cases hlt : i < its.length
      · have hit : its[i]? = some its[i] := by simp [hlt]
        obtain ⟨go, yld⟩ := w1 i _ hit
        rw [List.drop_eq_getElem_cons hlt] at q
        refine .inr ⟨go, fun H' => ∃ Hf acc us M, Ext Hf1 H1 Hf H' ∧ H' D = some (.lst us) ∧ RepOs K Hf H' acc us M ∧ Nw H1 Hf H' (D :: M) ∧ PostE c K s Hf1 H1 Q (lcL fg ft f (wipeE r vs) (its.drop (i + 1)) acc),
          fun H' h => ⟨its.length - (i + 1), by omega, rfl, hlt, h⟩, fun x H3 hy => ?_⟩
        obtain ⟨Hf3, x3, a3⟩ := yld x H3 hy
        obtain ⟨Lw, srw, hwl, hsub⟩ := (sr2.mono x3).wipe vs hv'
        unfold lcL at q
        cases eg : fg its[i] (wipeE r vs) with
        | none => rw [eg] at q; exact q.elim
        | some r1 =>
          rw [eg] at q
          dsimp only at q
          refine hg _ x (wipeE r vs) r1 (wipe s vs) Hf3 H3 Lw ⟨srw.ext, srw.env, srw.nd, srw.fr, srw.ok, srw.rows⟩ a3 eg _ fun s1 L1 srb hw => ?_
          refine ⟨by rw [hw, wipe_wipe], ?_⟩
          refine ht r1 s1 Hf3 H3 L1 srb _ ?_
          have keepM : ∀ a ∈ D :: M, H a ≠ none := fun a ha => (nw.fr a ha).2.2
          cases et : ft r1 with
          | bad => rw [et] at q; exact q.elim
          | exc e' => rw [et] at q; exact q.elim
          | ok b =>
            intro Hf4 H4 x4
            cases b with
            | false =>
              rw [et] at q
              have xB := x3.trans x4
              exact ⟨Hf4, acc, us, M, x2.trans xB, xB.same.lst hDl, RepOs.mono xB.fsame acc us M ((RepOs.nx acc us M ha).kp xB.same) ha, ⟨nw.nd, fun a ha => ⟨(nw.fr a ha).1, xB.nf (keepM a ha) (nw.fr a ha).2.1, xB.same.ne_none (keepM a ha)⟩⟩, q⟩
            | true =>
              rw [et] at q
              dsimp only at q
              refine he r1 s1 Hf4 H4 L1 (srb.mono x4) _ ?_
              cases ef : f r1 with
              | bad => rw [ef] at q; exact q.elim
              | exc e' => rw [ef] at q; exact q.elim
              | ok y =>
                rw [ef] at q
                dsimp only at q
                intro v Hf5 H5 L5 x5 a5 n5
                cases y with
                | vw o => exact q.elim
                | bw o => exact q.elim
                | nw o =>
                  simp only [newO] at q
                  by_cases hz : acc.length ≤ 100000
                  · rw [if_pos hz] at q
                    have xB := (x3.trans x4).trans x5
                    have hD5 := xB.same.lst hDl
                    have hl : us.length = acc.length := RepOs.length ha
                    have nD : Hf5 D = none := xB.nf (keepM D List.mem_cons_self) (nw.fr D List.mem_cons_self).2.1
                    have new5 : ∀ a ∈ L5, a ∉ D :: M := fun a h5 hm => (x3.trans x4).same.ne_none (keepM a hm) (n5.fr a h5).1
                    have ndm := List.nodup_cons.mp nw.nd
                    refine ⟨us, hD5, Nat.lt_of_le_of_lt (show us.length ≤ 100000 by omega) (by decide), Hf5, acc ++ [o], us ++ [v], M ++ L5, ⟨fun a u e => ?_, (x2.trans xB).fsame, fun a u e => ?_, (x2.trans xB).keep, fun h => ((x2.trans xB).rows h).set hD5 (Hk.ne rfl)⟩, upd_same, ?_, ⟨?_, fun a ha' => ?_⟩, q⟩
                    · rw [upd_ne (ne_of_none e hD)]; exact (x2.trans xB).same a u e
                    · rw [upd_ne (ne_of_none e nD)]; exact xB.sub a u e
                    · refine RepOs.append (RepOs.mono xB.fsame acc us M (fun a hm u q => ?_) ha) (RepO.mono (Same.refl _) o v L5 (fun a hm u q => ?_) a5)
                      · rw [upd_ne (fun (e : a = D) => ndm.1 (by rw [← e]; exact hm))]; exact (RepOs.nx acc us M ha).kp xB.same a hm u q
                      · rw [upd_ne (fun e => new5 a hm (by rw [e]; exact List.mem_cons_self))]; exact q
                    · refine List.nodup_cons.mpr ⟨fun hm => ?_, List.nodup_append.mpr ⟨ndm.2, n5.nd, fun a h1 b h2 e => ?_⟩⟩
                      · rcases List.mem_append.mp hm with hm | hm
                        · exact ndm.1 hm
                        · exact new5 D hm List.mem_cons_self
                      · subst e; exact new5 a h2 (List.mem_cons_of_mem _ h1)
                    · rcases List.mem_cons.mp ha' with e | hm
                      · subst e
                        exact ⟨hD, nD, by rw [upd_same]; simp⟩
                      · rcases List.mem_append.mp hm with hm | hm
                        · have hm' := List.mem_cons_of_mem D hm
                          exact ⟨(nw.fr a hm').1, xB.nf (keepM a hm') (nw.fr a hm').2.1, by rw [upd_ne (fun (e : a = D) => ndm.1 (by rw [← e]; exact hm))]; exact xB.same.ne_none (keepM a hm')⟩
                        · refine ⟨?_, (n5.fr a hm).2.1, ?_⟩
                          · exact (x2.trans (x3.trans x4)).fresh (n5.fr a hm).1
                          · rw [upd_ne (fun e => new5 a hm (by rw [e]; exact List.mem_cons_self))]; exact (n5.fr a hm).2.2
                  · rw [if_neg hz] at q; exact q.elim
      · have e : i = its.length := by omega
        subst e
        rw [List.drop_length] at q
        exact .inl ⟨w2, q (.ref D) Hf H (D :: M) x2 ⟨D, us, M, rfl, hDl, ha, rfl⟩ nw⟩
    · rw [if_neg hvs] at q; exact q.elim
def eLcD (fi : Env → Res (List R)) (fg : FG) (vs : List Nat) (ft : Env → Res Bool) (f : FE) : FE := fun r => (fi r).bind fun its => if vs.all (· < r.length) then lcL fg ft f (wipeE r vs) its [] else .bad
abbrev blkE (X : Cx) (scope : Scope) (s : Shared) (H : Hp) (C : Addr) (cl : List (Str × Addr)) (fp : List Addr) : Cx := X.blk s H scope (compEnvC scope cl C X.env) fp
theorem all_E {scope : Scope} (h : ∀ s H C cl fp, DE c (blkE X scope s H C cl fp) e f) : ∃ te, (∀ s H C cl fp, PE (blkE X scope s H C cl fp) e te) ∧ SoE c X.K te f := by
  refine ⟨fun σ H Q => ∀ s H0 C cl fp, (h s H0 C cl fp).ex.choose σ H Q, fun s H0 C cl fp => ⟨fun pins s' σ H Q I q => (h s H0 C cl fp).ex.choose_spec.1.run pins s' σ H Q I (q s H0 C cl fp)⟩, fun r s Hf H L sr Q q s' H0 C cl fp => (h s' H0 C cl fp).ex.choose_spec.2 r s Hf H L sr Q q⟩
theorem all_G {scope : Scope} {tg : Expr} {fg : FG} {vs : List Nat} (h : ∀ s H C cl fp, DG c (blkE X scope s H C cl fp) tg fg vs) : ∃ te, (∀ s H C cl fp, PG (blkE X scope s H C cl fp) tg te) ∧ SoG c X.K te fg vs := by
  refine ⟨fun v σ H Q => ∀ s H0 C cl fp, (h s H0 C cl fp).ex.choose v σ H Q, fun s H0 C cl fp => ⟨fun pins s' σ H v u Q I rv q => (h s H0 C cl fp).ex.choose_spec.1.run pins s' σ H v u Q I rv (q s H0 C cl fp)⟩, fun x v r r1 s Hf H L sr a1 e Q q s' H0 C cl fp => (h s' H0 C cl fp).ex.choose_spec.2 x v r r1 s Hf H L sr a1 e Q q⟩
section
variable {k : Nat} {elt tg iter : Expr} {scope : Scope} {own : List (Str × Nat)} {fi : Env → Res (List R)} {fg : FG}
theorem de_lc (B : Bk c X k) (hN : X.N.Nodup) (hi : DI c X tg iter fi) (ok : BlkOk X.N X.env.scope scope own) (hg : ∀ s H C cl fp, DG c.blk (blkE X scope s H C cl fp) tg fg (own.map (·.2))) (he : ∀ s H C cl fp, DE c.blk (blkE X scope s H C cl fp) elt f)
    (hs : ∀ x, foldedSetIterable iter X.env x = pure x := by intro _; rfl) : DE c X (.ListComp elt [⟨tg, iter, [], 0⟩] scope pos) (eLcD fi fg (own.map (·.2)) tYesD f) := by
  obtain ⟨wi, p1, s1⟩ := hi.ex
  obtain ⟨g, p2, s2⟩ := all_G hg
  obtain ⟨te, p3, s3⟩ := all_E he
  refine ⟨_, pe_lc (own := own) B.calm hN p1 ok p2 (fun _ _ _ _ _ => pts_nil) p3 hs, so_lc s1 s2 (fun r s Hf H L sr Q q => q Hf H (Ext.refl sr.sub)) s3⟩
theorem ds_lc {i : Nat} {y : Str} {py : Pos} {spos : Pos} (own' : Bool) (B : Bk c X k) (hN : X.N.Nodup) (hy : X.N[i]? = some y) (hyl : X.env.scope.names.lookup y = some .local)
    (hsw : swapsWith (.ListComp elt [⟨tg, iter, [], 0⟩] scope pos) (some (.Name y py)) spos.line X.env = pure true) (hi : DI c X tg iter fi) (ok : BlkOk X.N X.env.scope scope own) (hg : ∀ s H C cl fp, DG c.blk (blkE X scope s H C cl fp) tg fg (own.map (·.2))) (he : ∀ s H C cl fp, DE c.blk (blkE X scope s H C cl fp) elt f)
    (hs : ∀ x, foldedSetIterable iter X.env x = pure x := by intro _; rfl) : DS c X (.Assign [.Name y py] (.ListComp elt [⟨tg, iter, [], 0⟩] scope pos) spos) (sSet i own' (eLcD fi fg (own.map (·.2)) tYesD f)) := by
  obtain ⟨wi, p1, s1⟩ := hi.ex
  obtain ⟨g, p2, s2⟩ := all_G hg
  obtain ⟨te, p3, s3⟩ := all_E he
  refine ⟨_, ps_setLc (own := own) B.calm hN hy hyl hsw p1 ok p2 (fun _ _ _ _ _ => pts_nil) p3 hs, so_set (so_lc s1 s2 (fun r s Hf H L sr Q q => q Hf H (Ext.refl sr.sub)) s3)⟩
theorem Bk.blk {s : Shared} {H : Hp} {C : Addr} {cl : List (Str × Addr)} {fp : List Addr} (B : Bk c X k) : Bk c.blk (blkE X scope s H C cl fp) k := ⟨B.hr, takes0, PassesOwn.never, B.calm⟩
end
end DL
namespace DL
open PySem L2
variable {c : Cn} {X : Cx} {a b e : Expr} {es : List Expr} {f g fa fb : FE} {pos : Pos} {fs : Env → Res (List O)} {K : PySem.W.Frag} {H0 H H' Hf Hf' : Hp} {F G : FS} {st : Stmt} {sts : List Stmt} {ft : Env → Res Bool}
def rng3 : List O → Res (List R)
  | [.fz (.int i), .fz (.int j), .fz (.int k)] => if decide (k ≠ 0) && decide (k.natAbs < 1073741824) && Builtin.Range.small i j k && decide (0 ≤ Builtin.Range.rangeSize i j k) then .ok ((List.range (Builtin.Range.rangeSize i j k).toNat).map fun (n : Nat) => intR (i + (n : Nat) * k)) else .bad
  | _ => .bad
theorem wk_rngC {lo k : Int} {n : Nat} : Wk K H0 Hf ((List.range n).map fun (m : Nat) => intR (lo + (m : Nat) * k)) (Itc lo k n) := fun Hf2 H2 f1 f2 f3 => by
  refine ⟨fun i it hi => ?_, by show n ≤ _; simp⟩
  have hlt : i < n := by
    have := (List.getElem?_eq_some_iff.mp hi).1
    simpa using this
  refine ⟨hlt, fun x H3 ⟨eH, ex⟩ => ?_⟩
  subst eH ex
  have e : ((List.range n).map fun (m : Nat) => intR (lo + (m : Nat) * k))[i]? = some (intR (lo + (i : Nat) * k)) := by simp [hlt]
  rw [e] at hi
  cases hi
  exact ⟨Hf2, Ext.refl f2, rfl⟩
theorem ints3 {os : List O} {vs : List V} {β : Type} {k : Int → Int → Int → Res β} {g : List O → Res β} (hg : ∀ os, g os = match os with | [.fz (.int i), .fz (.int j), .fz (.int m)] => k i j m | _ => .bad) (h : RepVs K Hf H os vs) : g os = .bad ∨ ∃ i j m, g os = k i j m ∧ vs = [.int i, .int j, .int m] := by
  rw [hg]
  split
  · rename_i i j m
    obtain ⟨v, r, e1, h1, v2, r2, e2, h2, v3, r3, e3, h3, h4⟩ := h
    have h4' : r3 = [] := h4
    have h1' : v = .int i := h1
    have h2' : v2 = .int j := h2
    have h3' : v3 = .int m := h3
    subst h4' h1' h2' h3' e3 e2 e1
    exact .inr ⟨i, j, m, rfl, rfl⟩
  · exact .inl rfl
theorem di_rng3 {tg e e2 e3 : Expr} {p pos : Pos} (hg : Gl X "range") (hm : X.mg "range" = none) (h : DA c X [e, e2, e3] fs) (hs : starEach [e, e2, e3] X.env = (false, eval e X.env) :: starEach [e2, e3] X.env := by rfl) (hpl : (backTo pos (starEach [e2, e3] X.env)).any (·.1) = false := by rfl) :
    DI c X tg (.Call (.Name "range" p) [e, e2, e3] [] pos) (iRng rng3 fs) := by
  obtain ⟨t, pa, s⟩ := h.ex
  refine ⟨iRng3 t, pi_range3 hg hm pa hs hpl, fun r s' Hf H L sr Q q => ?_⟩
  refine s.run sr pstI q fun os vs Hf1 H1 x1 sr1 a1 q1 => ?_
  rcases ints3 (k := fun i j k => if decide (k ≠ 0) && decide (k.natAbs < 1073741824) && Builtin.Range.small i j k && decide (0 ≤ Builtin.Range.rangeSize i j k) then .ok ((List.range (Builtin.Range.rangeSize i j k).toNat).map fun (n : Nat) => intR (i + (n : Nat) * k)) else .bad) (g := rng3) (fun os => by unfold rng3; rfl) a1 with e0 | ⟨i, j, k, e0, ev⟩
  · rw [e0] at q1; exact q1.elim
  · rw [e0] at q1
    by_cases hj : (decide (k ≠ 0) && decide (k.natAbs < 1073741824) && Builtin.Range.small i j k && decide (0 ≤ Builtin.Range.rangeSize i j k)) = true
    · rw [if_pos hj] at q1
      simp only [Bool.and_eq_true, decide_eq_true_eq] at hj
      exact ⟨i, j, k, _, ev, ⟨hj.1.1.1, hj.1.1.2, hj.1.2, by rw [Int.toNat_of_nonneg hj.2]⟩, q1 _ Hf1 H1 (Ext.refl sr1.sub) wk_rngC⟩
    · rw [if_neg hj] at q1; exact q1.elim
end DL
namespace DL
open PySem L2
variable {c : Cn} {X : Cx} {a b e : Expr} {es : List Expr} {f g fa fb : FE} {pos : Pos} {fs : Env → Res (List O)} {K : PySem.W.Frag} {H0 H H' Hf Hf' : Hp} {F G : FS} {st : Stmt} {sts : List Stmt} {ft : Env → Res Bool}
section
variable {P : Program} {w : World} {mg : Str → Option Value} {base : Heap} {x qual : Str} {params : Arguments} {body : List Stmt} {scope : Scope} {fa : Addr} {fd : FuncData} {N ps : List Str} {k n : Nat}
theorem Def.ofD (Fn : FunD K x qual params body scope [] [] fa fd) (S : FnScope N ps scope) (hm : mg x = some (.ref fa)) (hb : Binds K fd ps []) (hn : ps.length = n) (F : FS)
    (hbody : ∀ (cdv : Value) (A : Around) (outer : List PySem.Env) (s : Shared) (H : Hp) (E : XK) (Hf : Hp), Bk ⟨Hf, H, fun cls d _ H' => E cls d H'⟩ (cxOf (L2.CX P w) P w K mg base N qual scope fa cdv A outer s H E) k →
      DSs ⟨Hf, H, fun cls d _ H' => E cls d H'⟩ (cxOf (L2.CX P w) P w K mg base N qual scope fa cdv A outer s H E) body F) : Def P w K mg base x (k + 1) n (runF N.length F) := by
  refine ⟨fa, fd, ps, ?_, hm, Fn.kp, hb, hn⟩
  subst hn
  refine Fn.ok S (fun vs H Q E h => ?_) (fun cdv A outer s H vs Q E hr h => ?_)
  · obtain ⟨Hf, os, _, _, h2, h3, _⟩ := h
    rw [RepVs.length h2, h3]
  · obtain ⟨Hf, os, sub, hro, h2, h3, h4⟩ := h
    have B : Bk ⟨Hf, H, fun cls d _ H' => E cls d H'⟩ (cxOf (L2.CX P w) P w K mg base N qual scope fa cdv A outer s H E) k := ⟨hr, takes_of rfl rfl rfl rfl, passes_of rfl, rfl⟩
    obtain ⟨t, p, so⟩ := (hbody cdv A outer s H E Hf B).ex
    refine ⟨t, p, ?_⟩
    have hl : vs.length = os.length := RepVs.length h2
    have sr : SR K Hf H (startE N.length os) (L2.start N vs) Hf H [] := by
      refine ⟨Ext.refl sub, ?_, List.nodup_nil, (fun _ h => nomatch h), (fun _ h => nomatch h), hro⟩
      unfold startE L2.start
      rw [hl]
      exact env_start h2
    refine so _ _ Hf H [] sr _ ?_
    unfold runF at h4
    cases e : F (startE N.length os) with
    | ret o => rw [e] at h4; exact fun v Hf' H' L _ x q n => h4 v Hf' H' L x q n
    | nx r => rw [e] at h4; exact fun s Hf' H' L f sr' => h4 .non Hf' H' [] sr'.ext ⟨rfl, rfl⟩ nw_nil
    | bk r => rw [e] at h4; exact h4.elim
    | ct r => rw [e] at h4; exact h4.elim
    | exc e' r => rw [e] at h4; exact fun s cls d Hf' H' L _ sr' h => h4 cls d Hf' H' sr'.ext h
    | bad => rw [e] at h4; exact h4.elim
def onlyAt (H : Hp) (a : Addr) : Hp := fun b => if b = a then (match H a with
  | some (.lst xs) => some (.lst xs)
  | some (.frz o u) => some (.frz o u)
  | _ => none) else none
theorem only_in {H : Hp} {a b : Addr} {o : HO} (h : onlyAt H a b = some o) : b = a ∧ H a = some o ∧ (∀ φ : Hk, o ≠ φ.o) ∧ ∀ C dx fs, o ≠ .ins C dx fs := by
  unfold onlyAt at h
  by_cases hb : b = a
  · rw [if_pos hb] at h
    refine ⟨hb, ?_⟩
    split at h
    · rename_i xs q
      cases h
      exact ⟨q, (Hk.ne rfl), fun _ _ _ z => (nomatch z)⟩
    · rename_i oo u q
      cases h
      exact ⟨q, (Hk.ne rfl), fun _ _ _ z => (nomatch z)⟩
    · cases h
  · rw [if_neg hb] at h; cases h
theorem only_same {H : Hp} {a : Addr} : Same (onlyAt H a) H := fun b o h => by
  obtain ⟨e, h1, _⟩ := only_in h
  subst e; exact h1
theorem only_rows {T : List Addr} {H : Hp} {a : Addr} (t : TabsA T H) : Rows T (onlyAt H a) H where
  tabs := t
  nk := fun b o h k => by
    obtain ⟨_, _, n, _⟩ := only_in h
    obtain ⟨φ, z⟩ := isKn_ext k
    exact n φ z
  at_ := fun b C dx k r f h => by
    obtain ⟨_, _, _, n⟩ := only_in h
    exact absurd rfl (n _ _ _)
theorem only_seq {K : PySem.W.Frag} {H : Hp} {a : Addr} {xs : List V} (h : SqL K H a xs) : SqL K (onlyAt H a) a xs := by
  rcases h with (h | ⟨o, h⟩) | h
  · exact .inl (.inl (by unfold onlyAt; rw [if_pos rfl, h]))
  · exact .inl (.inr ⟨o, by unfold onlyAt; rw [if_pos rfl, h]⟩)
  · exact .inr h
theorem tabs0 {K : PySem.W.Frag} {H : Hp} (h : nestNames = []) : TabsA (tK K) H := fun p hp => by
  unfold tK at hp
  rw [h] at hp
  cases hp
def spLaw (K : PySem.W.Frag) : Sp := fun vs H Q _ => ∃ (a : Addr) (ns : List Int), vs = [.ref a] ∧ SqL K H a (ns.map V.int) ∧ ns.length ≤ 63 ∧ TabsA (tK K) H ∧ ∀ H', Q (.bl true) H'
theorem law_ok {y : Str} (Fn : FunD K x qual params body scope [] [] fa fd) (S : FnScope N [y] scope) (F : FS)
    (hbody : ∀ (cdv : Value) (A : Around) (outer : List PySem.Env) (s : Shared) (H : Hp) (E : XK) (Hf : Hp), Bk ⟨Hf, H, fun _ _ _ _ => False⟩ (cxOf CX0 P w K mg base N qual scope fa cdv A outer s H E).nox k →
      DSs ⟨Hf, H, fun _ _ _ _ => False⟩ (cxOf CX0 P w K mg base N qual scope fa cdv A outer s H E).nox body F)
    (hlaw : ∀ ns : List Int, ns.length ≤ 63 → runF N.length F [.fz (.scr ns)] = .ok (.fz (.bl true))) : FnOk P w K mg base CX0 (k + 1) fa fd [y] (spLaw K) := by
  refine Fn.ok S (fun vs H Q E h => ?_) (fun cdv A outer s H vs Q E hr h => ?_)
  · obtain ⟨a, ns, rfl, _⟩ := h
    rfl
  · obtain ⟨a, ns, rfl, hS, hl, ht, hq⟩ := h
    have B : Bk ⟨onlyAt H a, H, fun _ _ _ _ => False⟩ (cxOf CX0 P w K mg base N qual scope fa cdv A outer s H E).nox k := ⟨hr, takes0, PassesOwn.never, rfl⟩
    obtain ⟨t, p, so⟩ := (hbody cdv A outer s H E (onlyAt H a) B).ex
    refine ⟨t, p.nox, ?_⟩
    have h2 : RepVs K (onlyAt H a) H [.fz (.scr ns)] [.ref a] := ⟨_, _, rfl, ⟨a, rfl, only_seq hS⟩, rfl⟩
    have sr : SR K (onlyAt H a) H (startE N.length [.fz (.scr ns)]) (L2.start N [.ref a]) (onlyAt H a) H [] := by
      refine ⟨Ext.refl only_same, ?_, List.nodup_nil, (fun _ h => nomatch h), (fun _ h => nomatch h), only_rows ht⟩
      unfold startE L2.start
      exact env_start h2
    refine so _ _ (onlyAt H a) H [] sr _ ?_
    have h4 := hlaw ns hl
    unfold runF at h4
    cases e : F (startE N.length [.fz (.scr ns)]) with
    | ret o =>
      rw [e] at h4
      cases h4
      exact fun v Hf' H' L _ x q n => by
        have q' : v = .bl true := q.1
        subst q'
        exact hq H'
    | nx r => rw [e] at h4; cases h4
    | bk r => rw [e] at h4; cases h4
    | ct r => rw [e] at h4; cases h4
    | exc e' r => rw [e] at h4; cases h4
    | bad => rw [e] at h4; cases h4
end
end DL
namespace DL
open PySem L2
variable {c : Cn} {X : Cx} {a b e : Expr} {es : List Expr} {f g fa fb : FE} {pos : Pos} {fs : Env → Res (List O)} {K : PySem.W.Frag} {H0 H H' Hf Hf' : Hp} {F G : FS} {st : Stmt} {sts : List Stmt} {ft : Env → Res Bool}
structure Rx (K : PySem.W.Frag) (mg : Str → Option Value) (x : Str) : Prop where
  q : PySem.W.excIn K (He.ga K x) He.veBase "ValueError.__new__" = true
  g : mg x = some (.ref (He.ga K x))
  k : PySem.W.keepIn K (.ref (He.ga K x)) = true
  s : PySem.W.subIn K (.ref (He.ga K x)) (.type "BaseException") = some true
  t : PySem.W.typeIn K (.ref (He.ga K x)) = some (.type "type")
  n : PySem.W.nsIn K mainGlobals x = some (some (.ref (He.ga K x)))
theorem Rx.of {mg : Str → Option Value} {h : Heap} {x : Str} (Y : K.In h) (G : h.Ns mainGlobals mg) (c1 : (He.Fa.glo x).ok K = true) (c2 : (He.Fa.exc x).ok K = true) : Rx K mg x := by
  obtain ⟨h1, h2, h3, h4⟩ := He.exc_ok c2
  exact ⟨h1, He.glo_ok Y G c1, h2, h3, h4, He.eqO_ok c1⟩
def sRaise (x : Str) : FS := fun r => .exc ⟨x, []⟩ r
section
variable {pins : List (Addr × Obj)} {σ : St} {s : Shared}
end
section
variable {x n : Str} {cv : Value} {i : Nat} {body suite : List Stmt} {b₀ : Stmt} {np pos' : Pos} {tb : WX → TS} {ts : TS} {Wout : WX}
end
def offS (i : Nat) : Out → Out
  | .nx r => .nx (r.set i .un)
  | .bk r => .bk (r.set i .un)
  | .ct r => .ct (r.set i .un)
  | .ret o => .ret o
  | _ => .bad
abbrev Cn.wi (c : Cn) (W : Wx) : Cn := ⟨c.Hf0, c.H0, W⟩
theorem SR.unset {r : Env} {s : St} {L : List Addr} {i : Nat} (sr : c.SR K r s Hf H L) (hi : i < r.length) : ∃ L', c.SR K (r.set i .un) (s.set i none) Hf H L' := by
  obtain ⟨L', h, _⟩ := sr.wipe [i] (fun v hv => by
    have e : v = i := by simpa using hv
    subst e; exact hi)
  exact ⟨L', h⟩
theorem Ext.known {x : Addr} {o : HO} (sub : Same Hf H) (hx : H x = none) (n1 : ¬ isKn o) (n2 : ∀ C dx fs, o = .ins C dx fs → fs.map (·.1) ≠ rowNs) : Ext Hf H (upd Hf x o) (upd H x o) :=
  ⟨Same.sm fun a u e => by rw [upd_ne (ne_of_none e hx)]; exact e, fun a u e => by rw [upd_ne (ne_of_none e (sub_none sub hx))]; exact e, fun a u e => by
    by_cases ha : a = x
    · subst ha; rw [upd_same] at e ⊢; exact e
    · rw [upd_ne ha] at e ⊢; exact sub a u e, fun a h1 h2 => by
    by_cases ha : a = x
    · subst ha; exact absurd hx h1
    · rw [upd_ne ha] at h2; exact h2, fun h => h.fz hx n1 n2 (sub_none sub hx)⟩
section
variable {x n : Str} {cv : Value} {i k : Nat} {body suite : List Stmt} {b₀ : Stmt} {np pos' : Pos} {tab : List (Str × Bool)}
end
end DL
namespace DL
open PySem L2
variable {c : Cn} {X : Cx} {a b e : Expr} {es : List Expr} {f g fa fb : FE} {pos : Pos} {fs : Env → Res (List O)} {K : PySem.W.Frag} {H0 H H' Hf Hf' : Hp} {F G : FS} {st : Stmt} {sts : List Stmt} {ft : Env → Res Bool}
structure IsT (K : PySem.W.Frag) (u : Value) (tab : List (Str × Bool)) : Prop where
  non : PySem.W.kitOne K (.type "NoneType") u = some false
  exc : ∀ n b, tab.lookup n = some b → ∀ D, PySem.W.nsIn K mainGlobals n = some (some (.ref D)) → ExcC K D ∧ PySem.W.kitOne K (.ref D) u = some b
inductive Ask where | own (x : Str) | ve
def Ask.v (K : PySem.W.Frag) : Ask → Value
  | .own x => .ref (He.ga K x)
  | .ve => .type "ValueError"
abbrev AlY : Type := He.AlD × Bool
def obsY (n : Nat) (fa : List He.Fa) (fn : List He.DefD) (ex : PySem.W.Frag → Bool) (g : Addr → Option Obj) : AlY := (He.obsDG n fa fn g, ex (He.frG g (He.asD g n)))
def hookY (n : Nat) (fa : List He.Fa) (fn : List He.DefD) (ex : PySem.W.Frag → Bool) : PySem.W.Hook where
  α := AlY
  obs := fun s => obsY n fa fn ex s.heap.get?
  val := fun _ => (He.valD fn, true)
  says := fun _ h => ∃ K : PySem.W.Frag, K.In h ∧ He.SaysD fa fn K ∧ ex K = true
  of := fun _ _ e => ⟨_, He.frG_in, congrArg (fun z : AlY => z.1) e, congrArg (fun z : AlY => z.2) e⟩
  keeps := fun _ _ _ ⟨K, hK, d⟩ k => ⟨K, PySem.W.Frag.In.keeps hK k, d⟩
theorem obsY_eq {n : Nat} {fa : List He.Fa} {fn : List He.DefD} {ex : PySem.W.Frag → Bool} {g : Addr → Option Obj} {s : Shared} (h : ∀ a, g a = s.heap.get? a) : obsY n fa fn ex g = (hookY n fa fn ex).obs s := by
  have e : g = s.heap.get? := funext h
  rw [e] <;> rfl
end DL
namespace DL
open PySem PySem.Spec PyProof.Rows L2
variable {c : Cn} {X : Cx} {a b e : Expr} {es : List Expr} {f g fa fb : FE} {pos : Pos} {fs : Env → Res (List O)} {K : PySem.W.Frag} {H0 H H' Hf Hf' : Hp} {F G : FS} {st : Stmt} {sts : List Stmt} {ft : Env → Res Bool}
def stepL {α : Type} (xs : List α) (lo hi st : Option Int) : List α := (sliceRange (sliceBounds lo hi st xs.length).1 (sliceBounds lo hi st xs.length).2.1 (sliceBounds lo hi st xs.length).2.2).filterMap (xs[·]?)
theorem RepVs.none_of {os : List O} {vs : List V} {i : Nat} (h : RepVs K Hf H os vs) (e : os[i]? = none) : vs[i]? = none := by
  rw [List.getElem?_eq_none_iff] at e ⊢
  rw [RepVs.length h]; exact e
theorem RepVs.pick {os : List O} {vs : List V} (h : RepVs K Hf H os vs) : ∀ ix : List Nat, RepVs K Hf H (ix.filterMap (os[·]?)) (ix.filterMap (vs[·]?))
  | [] => rfl
  | i :: ix => by
    cases e : os[i]? with
    | none =>
      rw [List.filterMap_cons_none e, List.filterMap_cons_none (h.none_of e)]
      exact RepVs.pick h ix
    | some o =>
      obtain ⟨v, h1, h2⟩ := RepVs.get h e
      rw [List.filterMap_cons_some e, List.filterMap_cons_some h1]
      exact ⟨v, _, rfl, h2, RepVs.pick h ix⟩
theorem RepVs.step {os : List O} {vs : List V} (h : RepVs K Hf H os vs) (lo hi st : Option Int) : RepVs K Hf H (stepL os lo hi st) (stepL vs lo hi st) := by
  unfold stepL
  rw [RepVs.length h]
  exact h.pick _
end DL
namespace DL
open PySem L2
abbrev I (i : Int) : O := .fz (.int i)
abbrev VI (i : Int) : S := .vl true (.fz (.int i))
abbrev iL (xs : List Int) : List O := xs.map fun i => .fz (.int i)
section
variable {r r' : Env} {f g : FE} {F G : FS} {ft ft2 : Env → Res Bool}
@[simp] theorem res_ok {α β : Type} (a : α) (k : α → Res β) : (Res.ok a).bind k = k a := (rfl)
@[simp] theorem res_exc {α β : Type} (e : Ec) (k : α → Res β) : (Res.exc e).bind k = .exc e := (rfl)
@[simp] theorem res_bad {α β : Type} (k : α → Res β) : (Res.bad : Res α).bind k = .bad := (rfl)
@[simp] theorem see_fz (w : Bool) (d : D) : see w (.fz d) = .nw (.fz d) := (rfl)
@[simp] theorem see_ls (os : List O) : see true (.ls os) = .vw (.ls os) := (rfl)
@[simp] theorem see_lsB (os : List O) : see false (.ls os) = .bw (.ls os) := (rfl)
@[simp] theorem ra_nw (o : O) : (R.nw o).a = .fz (er o) := (rfl)
@[simp] theorem ra_vw (o : O) : (R.vw o).a = o := (rfl)
@[simp] theorem ra_bw (o : O) : (R.bw o).a = o := (rfl)
@[simp] theorem er_fz (d : D) : er (.fz d) = d := (rfl)
@[simp] theorem put_nwT (o : O) : put true (.nw o) = some (.vl true o) := (rfl)
@[simp] theorem put_nwF (o : O) : put false (.nw o) = some (.vl true (.fz (er o))) := (rfl)
@[simp] theorem put_bw (w : Bool) (o : O) : put w (.bw o) = some (.vl false o) := by cases w <;> rfl
@[simp] theorem eC_ev (d : D) : eC d r = .ok (.nw (.fz d)) := (rfl)
@[simp] theorem fzR_ev (d : D) : fzR d = .ok (.nw (.fz d)) := (rfl)
theorem eVar_of {i : Nat} {w : Bool} {o : O} (h : r[i]? = some (.vl w o)) : eVar i r = .ok (see w o) := by simp only [eVar, h]
@[simp] theorem eOp_ev (h : O → O → Res R) : eOp h f g r = (f r).bind fun x => (g r).bind fun y => h x.a y.a := (rfl)
@[simp] theorem eUn_ev (h : O → Res R) : eUn h f r = (f r).bind fun x => h x.a := (rfl)
@[simp] theorem tOf_ev : tOf f r = (f r).bind toB := (rfl)
@[simp] theorem toB_ev (b : Bool) : toB (.nw (.fz (.bl b))) = .ok b := (rfl)
@[simp] theorem gAdd_ev (i j : Int) : gAddA (.fz (.int i)) (.fz (.int j)) = .ok (.nw (.fz (.int (i + j)))) := (rfl)
@[simp] theorem gSub_ev (i j : Int) : gSub (.fz (.int i)) (.fz (.int j)) = .ok (.nw (.fz (.int (i - j)))) := (rfl)
theorem gMul_ev {i j : Int} (h : i.natAbs.log2 + j.natAbs.log2 < 100000000) : gMulA (.fz (.int i)) (.fz (.int j)) = .ok (.nw (.fz (.int (i * j)))) := by
  show (if mulOk i j = true then fzR (.int (i * j)) else .bad) = _
  rw [if_pos (show mulOk i j = true from decide_eq_true h)]; rfl
theorem gDiv_ev {i j : Int} (h : j ≠ 0) (h2 : j.natAbs.log2 < 9000) : gDiv (.fz (.int i)) (.fz (.int j)) = .ok (.nw (.fz (.int (i.fdiv j)))) := by
  show (if divOk i j = true then fzR (.int (i.fdiv j)) else .bad) = _
  rw [if_pos (show divOk i j = true from decide_eq_true ⟨h, h2⟩)]; rfl
theorem gMod_ev {i j : Int} (h : j ≠ 0) : gMod (.fz (.int i)) (.fz (.int j)) = .ok (.nw (.fz (.int (i.fmod j)))) := by
  show (if modOk i j = true then fzR (.int (i.fmod j)) else .bad) = _
  rw [if_pos (show modOk i j = true from decide_eq_true h)]; rfl
@[simp] theorem gLt_ev (i j : Int) : gLt (.fz (.int i)) (.fz (.int j)) = .ok (.nw (.fz (.bl (decide (i < j))))) := (rfl)
@[simp] theorem gLe_ev (i j : Int) : gLe (.fz (.int i)) (.fz (.int j)) = .ok (.nw (.fz (.bl (decide (i ≤ j))))) := (rfl)
@[simp] theorem gGt_ev (i j : Int) : gGt (.fz (.int i)) (.fz (.int j)) = .ok (.nw (.fz (.bl (decide (j < i))))) := (rfl)
@[simp] theorem gGe_ev (i j : Int) : gGe (.fz (.int i)) (.fz (.int j)) = .ok (.nw (.fz (.bl (decide (j ≤ i))))) := (rfl)
@[simp] theorem gEq_ev (i j : Int) : gEq (.fz (.int i)) (.fz (.int j)) = .ok (.nw (.fz (.bl (decide (i = j))))) := (rfl)
@[simp] theorem gNe_ev (i j : Int) : gNe (.fz (.int i)) (.fz (.int j)) = .ok (.nw (.fz (.bl (!decide (i = j))))) := (rfl)
@[simp] theorem gNeg_ev (i : Int) : gNeg (.fz (.int i)) = .ok (.nw (.fz (.int (-i)))) := (rfl)
@[simp] theorem aNil_ev : aNil r = .ok [] := (rfl)
@[simp] theorem aCons_ev (fs : Env → Res (List O)) : aCons f fs r = (f r).bind fun x => (fs r).bind fun xs => .ok (x.a :: xs) := (rfl)
@[simp] theorem eCall_ev (M : List O → Res O) (fs : Env → Res (List O)) : eCall M fs r = (fs r).bind fun os => (M os).bind fun o => .ok (.nw o) := (rfl)
@[simp] theorem eB_ev (h : List O → Res R) (fs : Env → Res (List O)) : eB h fs r = (fs r).bind h := (rfl)
@[simp] theorem gAbs_ev (i : Int) : gAbs [.fz (.int i)] = .ok (.nw (.fz (.int (if i < 0 then -i else i)))) := (rfl)
@[simp] theorem gMax_ev (i j : Int) : gMax2 [.fz (.int i), .fz (.int j)] = .ok (.nw (.fz (.int (if j > i then j else i)))) := (rfl)
@[simp] theorem gMin_ev (i j : Int) : gMin2 [.fz (.int i), .fz (.int j)] = .ok (.nw (.fz (.int (if j < i then j else i)))) := (rfl)
@[simp] theorem sSeq_ev : sSeq F G r = (match F r with | .nx r' => G r' | o => o) := (rfl)
@[simp] theorem sNil_ev : sNil r = .nx r := (rfl)
@[simp] theorem sSet_ev (i : Nat) (w : Bool) : sSet i w f r = (match f r with | .ok x => setS r i (put w x) | .exc e => .exc e r | .bad => .bad) := (rfl)
@[simp] theorem setS_ev (i : Nat) (y : S) : setS r i (some y) = if i < r.length then .nx (r.set i y) else .bad := (rfl)
@[simp] theorem sRet_ev : sRet f r = (match f r with | .ok x => retR x | .exc e => .exc e r | .bad => .bad) := (rfl)
@[simp] theorem retR_ev (o : O) : retR (.nw o) = .ret o := (rfl)
@[simp] theorem sIf_ev : sIf ft F G r = (match ft r with | .ok b => if b then F r else G r | .exc e => .exc e r | .bad => .bad) := (rfl)
@[simp] theorem tAnd_ev : tAndD ft ft2 r = (ft r).bind fun b => if b then ft2 r else .ok false := (rfl)
@[simp] theorem tOr_ev : tOrD ft ft2 r = (ft r).bind fun b => if b then .ok true else ft2 r := (rfl)
@[simp] theorem tNot_ev : tNotD ft r = (ft r).bind fun b => .ok (!b) := (rfl)
@[simp] theorem tYes_ev : tYesD r = .ok true := (rfl)
end
section
variable {fg : FG} {F : FS} {ft : Env → Res Bool} {f : FE} {r r' r1 : Env} {n : Nat}
theorem forL_cons {x : R} {xs : List R} (h : fg x r = some r1) (h2 : F r1 = .nx r') : forL fg F (x :: xs) r = forL fg F xs r' := by simp [forL, h, h2]
theorem forL_inv {its : List R} (P : Nat → Env → Prop) (h0 : P 0 r) (step : ∀ (i : Nat) x r, its[i]? = some x → P i r → ∃ r1 r', fg x r = some r1 ∧ F r1 = .nx r' ∧ P (i + 1) r') : ∃ r', forL fg F its r = .nx r' ∧ P its.length r' := by
  have go : ∀ (l : List R) (i : Nat) (r : Env), (∀ (j : Nat) x, l[j]? = some x → its[i + j]? = some x) → P i r → ∃ r', forL fg F l r = .nx r' ∧ P (i + l.length) r' := by
    intro l
    induction l with
    | nil => intro i r _ p; exact ⟨r, rfl, p⟩
    | cons x l ih =>
      intro i r hl p
      obtain ⟨r1, r2, e1, e2, p2⟩ := step i x r (by simpa using hl 0 x rfl) p
      obtain ⟨r3, e3, p3⟩ := ih (i + 1) r2 (fun j y hy => by have := hl (j + 1) y (by simpa using hy); rw [show i + 1 + j = i + (j + 1) by omega]; exact this) p2
      exact ⟨r3, by rw [forL_cons e1 e2]; exact e3, by rw [List.length_cons, show i + (l.length + 1) = i + 1 + l.length by omega]; exact p3⟩
  obtain ⟨r', e, p⟩ := go its 0 r (fun j x h => by simpa using h) h0
  exact ⟨r', e, by simpa using p⟩
end
@[simp] theorem gN_ev (i : Nat) (o : O) (r : Env) : gN i (.nw o) r = if i < r.length then some (r.set i (.vl true (.fz (er o)))) else none := (rfl)
theorem ers_iL (xs : List Int) : ers (iL xs) = xs.map .int := by rw [ers_eq, List.map_map]; rfl
@[simp] theorem er_ls (os : List O) : er (.ls os) = .lst (ers os) := (rfl)
@[simp] theorem items_ls (os : List O) : items (.ls os) = some os := (rfl)
@[simp] theorem items_lst_ev (ds : List D) : items (.fz (.lst ds)) = some (ds.map .fz) := (rfl)
@[simp] theorem items_scr (ns : List Int) : items (.fz (.scr ns)) = some (iL ns) := (rfl)
theorem items_int (xs : List Int) : items (.fz (.lst (xs.map .int))) = some (iL xs) := by simp [iL]
@[simp] theorem gLen_ls (os : List O) : gLen [.ls os] = .ok (.nw (.fz (.int os.length))) := (rfl)
@[simp] theorem pNone_ev (r : Env) : pNone r = .ok none := (rfl)
@[simp] theorem eIsi_ev (T : Ty) (f : FE) (r : Env) : eIsi T f r = (f r).bind fun x => match tyO x.a with | some t => fzR (.bl (isT t T)) | none => .bad := (rfl)
@[simp] theorem iRng_ev (g : List O → Res (List R)) (fs : Env → Res (List O)) (r : Env) : iRng g fs r = (fs r).bind g := (rfl)
@[simp] theorem sFor_ev (fi : Env → Res (List R)) (fg : FG) (F : FS) (r : Env) : sFor fi fg F r = (match fi r with | .ok its => forL fg F its r | .exc e => .exc e r | .bad => .bad) := (rfl)
theorem atI_ok {α : Type} {xs : List α} {k : Int} {v : α} (h0 : 0 ≤ k) (h : xs[k.toNat]? = some v) : atI xs k = some v := by
  have hj : k.toNat < xs.length := (List.getElem?_eq_some_iff.mp h).1
  have e : ixN xs.length k = some k.toNat := by unfold ixN; rw [if_pos h0, if_pos (by omega)]
  unfold atI
  rw [e]; exact h
theorem gDiv_pos {i j : Int} (h : 0 < j) (h2 : j < 1073741824) : gDiv (.fz (.int i)) (.fz (.int j)) = .ok (.nw (.fz (.int (i.fdiv j)))) := by
  refine gDiv_ev (by omega) ?_
  have e : j.natAbs < 2 ^ 30 := by omega
  have := PySem.Flt.log2_lt_of (by decide : 0 < 30) e
  omega
theorem gMul_lt {i j : Int} (a b : Nat) (ha : i.natAbs < 2 ^ a) (hb : j.natAbs < 2 ^ b) (h0 : 0 < a) (h1 : 0 < b) (h : a + b ≤ 100000000) : gMulA (.fz (.int i)) (.fz (.int j)) = .ok (.nw (.fz (.int (i * j)))) := by
  refine gMul_ev ?_
  have x := PySem.Flt.log2_lt_of h0 ha
  have y := PySem.Flt.log2_lt_of h1 hb
  omega
section
variable {F G : FS} {r r' : Env} {o : Out} {ft : Env → Res Bool} {fg : FG} {fi : Env → Res (List R)} {its : List R} {f : FE} {x : R} {y : S}
theorem seq_go (h : F r = .nx r') (h2 : G r' = o) : sSeq F G r = o := by simp [h, h2]
theorem seq_ret {z : O} (h : F r = .ret z) : sSeq F G r = .ret z := by simp [h]
theorem if_t (h : ft r = .ok true) (h2 : F r = o) : sIf ft F G r = o := by simp [h, h2]
theorem if_f (h : ft r = .ok false) (h2 : G r = o) : sIf ft F G r = o := by simp [h, h2]
theorem for_go (h : fi r = .ok its) (h2 : forL fg F its r = o) : sFor fi fg F r = o := by simp [h, h2]
theorem set_go {i : Nat} {w : Bool} (h : f r = .ok x) (h2 : put w x = some y) (h3 : i < r.length) : sSet i w f r = .nx (r.set i y) := by simp [h, h2, h3]
theorem ret_go {z : O} (h : f r = .ok (.nw z)) : sRet f r = .ret z := by simp [h]
theorem run_ret {n : Nat} {os : List O} {z : O} (h : F (startE n os) = .ret z) : runF n F os = .ok z := by simp [runF, h]
end
theorem size_up {a b k : Int} (h : 0 < k) (hab : a < b) : Builtin.Range.rangeSize a b k = (b - a - 1) / k + 1 := by
  unfold Builtin.Range.rangeSize
  simp only [show k > 0 from h, hab, if_true]
theorem size_up0 {a b k : Int} (h : 0 < k) (hab : ¬ a < b) : Builtin.Range.rangeSize a b k = 0 := by
  unfold Builtin.Range.rangeSize
  simp only [show k > 0 from h, hab, if_true, if_false]
theorem small_up {a b k : Int} (h : 0 < k) (hk : k < 1073741824) (ha : -(2 ^ 62) ≤ a) (ha' : a < 2 ^ 62) (hb : -(2 ^ 62) ≤ b) (hb' : b < 2 ^ 62) (hsz : 0 ≤ Builtin.Range.rangeSize a b k ∧ Builtin.Range.rangeSize a b k < 2 ^ 63) : Builtin.Range.small a b k = true := by
  unfold Builtin.Range.small
  simp only [Builtin.Range.rangeFitsLong, Bool.and_eq_true, Bool.or_eq_true, decide_eq_true_eq, beq_iff_eq, show k > 0 from h, if_true]
  refine ⟨⟨⟨⟨by omega, by omega⟩, by omega⟩, by omega⟩, by omega⟩
theorem rng3_of {i j k : Int} (h1 : k ≠ 0) (h2 : k.natAbs < 1073741824) (h3 : Builtin.Range.small i j k = true) (h4 : 0 ≤ Builtin.Range.rangeSize i j k) :
    rng3 [.fz (.int i), .fz (.int j), .fz (.int k)] = .ok ((List.range (Builtin.Range.rangeSize i j k).toNat).map fun (n : Nat) => intR (i + (n : Nat) * k)) := by
  show (if (decide (k ≠ 0) && decide (k.natAbs < 1073741824) && Builtin.Range.small i j k && decide (0 ≤ Builtin.Range.rangeSize i j k)) = true then _ else Res.bad) = _
  rw [if_pos (by simp only [Bool.and_eq_true, decide_eq_true_eq]; exact ⟨⟨⟨h1, h2⟩, h3⟩, h4⟩)]
theorem rng3_up {a b k : Int} (h : 0 < k) (hk : k < 1073741824) (ha : -(2 ^ 62) ≤ a) (hab : a < b) (hb' : b < 2 ^ 62) : rng3 [.fz (.int a), .fz (.int b), .fz (.int k)] = .ok ((List.range ((b - a - 1) / k + 1).toNat).map fun (n : Nat) => intR (a + (n : Nat) * k)) := by
  have e := size_up h hab
  have h0 : 0 ≤ (b - a - 1) / k := Int.ediv_nonneg (by omega) (by omega)
  have h1 : (b - a - 1) / k ≤ b - a - 1 := Int.ediv_le_self _ (by omega)
  have hs := small_up h hk ha (by omega) (by omega) hb' (by rw [e]; omega)
  rw [rng3_of (by omega) (by omega) hs (by rw [e]; omega), e]
theorem rng3_up0 {a b k : Int} (h : 0 < k) (hk : k < 1073741824) (ha : -(2 ^ 62) ≤ b) (hab : ¬ a < b) (hb' : a < 2 ^ 62) : rng3 [.fz (.int a), .fz (.int b), .fz (.int k)] = .ok [] := by
  have e := size_up0 h hab
  have hs := small_up h hk (by omega) hb' ha (by omega) (by rw [e]; omega)
  rw [rng3_of (by omega) (by omega) hs (by rw [e]; omega), e]
  rfl
theorem rng1_ok {n : Int} (h : 0 ≤ n) (h2 : n < 2 ^ 62) : rng1 [.fz (.int n)] = .ok (rngL 0 n.toNat) := by
  show (if small62 n = true then Res.ok (rngL 0 n.toNat) else .bad) = _
  rw [if_pos (show small62 n = true from decide_eq_true ⟨by omega, h2⟩)]
@[simp] theorem iL_length (xs : List Int) : (iL xs).length = xs.length := by simp [iL]
theorem iL_get {xs : List Int} {i : Nat} (h : i < xs.length) : (iL xs)[i]? = some (.fz (.int xs[i])) := by simp [iL, h]
section
variable {f g : FE} {r : Env} {o p : O} {k : Int} {d : D}
theorem ix_vw (h1 : f r = .ok (.vw o)) (h2 : g r = .ok (.nw (.fz (.int k)))) (h : ixO o k = some p) : eIx f g r = .ok (see true p) := by simp [eIx, h1, h2, h]
theorem ix_nw (h1 : f r = .ok (.nw o)) (h2 : g r = .ok (.nw (.fz (.int k)))) (h : ixO (.fz (er o)) k = some (.fz d)) : eIx f g r = .ok (.nw (.fz d)) := by simp [eIx, h1, h2, h]
theorem forL_two {fg : FG} {F : FS} {x y : R} {r1 r2 r3 r4 : Env} (h1 : fg x r = some r1) (h2 : F r1 = .nx r2) (h3 : fg y r2 = some r3) (h4 : F r3 = .nx r4) : forL fg F [x, y] r = .nx r4 := by
  rw [forL_cons h1 h2, forL_cons h3 h4]; rfl
end
section
variable {F G : FS} {r r' : Env} {o : Out} {f : FE} {e : Ec} {tab : List (Str × Bool)} {i : Nat}
@[simp] theorem sUse_ev (k : R → Env → Out) : sUse f k r = (match f r with | .ok x => k x r | .exc e => .exc e r | .bad => .bad) := (rfl)
@[simp] theorem sDrop_ev : sDrop f r = (match f r with | .ok _ => .nx r | .exc e => .exc e r | .bad => .bad) := (rfl)
@[simp] theorem sRaise_ev (x : Str) : sRaise x r = .exc ⟨x, []⟩ r := (rfl)
@[simp] theorem offS_nx : offS i (.nx r) = .nx (r.set i .un) := (rfl)
@[simp] theorem offS_ret {z : O} : offS i (.ret z) = .ret z := (rfl)
@[simp] theorem lookup_self (x : Str) (b : Bool) (t : List (Str × Bool)) : List.lookup x ((x, b) :: t) = some b := by simp [List.lookup]
end
theorem ix_scr {f g : FE} {r : Env} {ns : List Int} {i : Nat} {k : Int} (h1 : f r = .ok (.nw (.fz (.scr ns)))) (h2 : g r = .ok (.nw (I k))) (hk : k = (i : Int)) (h : i < ns.length) : eIx f g r = .ok (.nw (I ns[i])) := by
  have e : ixO (.fz (.scr ns)) k = some (I ns[i]) := by
    show atI (iL ns) k = _
    refine atI_ok (by omega) ?_
    rw [show k.toNat = i by omega]; exact iL_get h
  simp [eIx, h1, h2, e]
@[simp] theorem gLen_scr (ns : List Int) : gLen [.fz (.scr ns)] = .ok (.nw (I ns.length)) := by
  show (match (items (.fz (.scr ns))).map List.length with | some n => fzR (.int n) | none => .bad) = _
  simp
theorem tOf_ok {f : FE} {r : Env} {b : Bool} (h : f r = .ok (.nw (.fz (.bl b)))) : tOf f r = .ok b := by simp [h]
theorem tNot_ok {ft : Env → Res Bool} {r : Env} {b : Bool} (h : ft r = .ok b) : tNotD ft r = .ok (!b) := by simp [h]
end DL
namespace DL
open PySem L2
section
variable {X : Cx}
end
section
variable {K : PySem.W.Frag}
def gIntB : List O → Res R
  | [.fz (.bl b)] => fzR (.int (if b then 1 else 0))
  | _ => .bad
end
@[simp] theorem gIntB_ev (b : Bool) : gIntB [.fz (.bl b)] = .ok (.nw (.fz (.int (if b then 1 else 0)))) := (rfl)
end DL
namespace DL
open PySem L2
variable {c : Cn} {X : Cx} {a b e : Expr} {es : List Expr} {f g fa fb : FE} {pos : Pos} {fs : Env → Res (List O)} {K : PySem.W.Frag} {H0 H H' Hf Hf' : Hp} {F G : FS} {st : Stmt} {sts : List Stmt} {ft : Env → Res Bool}
theorem RepOs.at : ∀ {os : List O} {vs : List V} {L : List Addr} {j : Nat} {o : O}, RepOs K Hf H os vs L → os[j]? = some o → ∃ v L1 M L2, vs[j]? = some v ∧ L = L1 ++ M ++ L2 ∧ RepO K Hf H o v M ∧
    ∀ (Hf' H' : Hp) (o' : O) (M' : List Addr), Same Hf Hf' → (∀ a ∈ L1 ++ L2, ∀ u, H a = some u → H' a = some u) → RepO K Hf' H' o' v M' → RepOs K Hf' H' (os.set j o') vs (L1 ++ M' ++ L2)
  | [], _, _, _, _, _, e => by simp at e
  | z :: r, _, L, 0, o, h, e => by
    obtain ⟨v, t, L1, L2, e1, e2, h1, h2⟩ := h
    subst e1 e2
    have e3 : z = o := by simpa using e
    subst e3
    refine ⟨v, [], L1, L2, rfl, rfl, h1, fun Hf' H' o' M' f k q => ?_⟩
    exact ⟨v, t, M', L2, rfl, rfl, q, RepOs.mono f r t L2 (fun a ha => k a (by simpa using ha)) h2⟩
  | z :: r, _, L, j + 1, o, h, e => by
    obtain ⟨v, t, L1, L2, e1, e2, h1, h2⟩ := h
    subst e1 e2
    obtain ⟨v2, A, M, B, f1, f2, f3, f4⟩ := RepOs.at (j := j) (o := o) h2 (by simpa using e)
    subst f2
    refine ⟨v2, L1 ++ A, M, B, by simpa using f1, by simp [List.append_assoc], f3, fun Hf' H' o' M' f k q => ?_⟩
    refine ⟨v, t, L1, A ++ M' ++ B, rfl, by simp [List.append_assoc], RepO.mono f z v L1 (fun a ha => k a (by simp [ha])) h1, f4 Hf' H' o' M' f (fun a ha => k a ?_) q⟩
    simp only [List.mem_append] at ha ⊢
    rcases ha with ha | ha
    · exact .inl (.inr ha)
    · exact .inr ha
theorem ixN_lt {n : Nat} {k : Int} {j : Nat} (h : ixN n k = some j) : j < n := by
  unfold ixN at h
  split at h
  · split at h
    · cases h; omega
    · cases h
  · split at h
    · cases h; omega
    · cases h
theorem rIx_own {j : Nat} {k : Int} {os : List O} {p : Addr} {vs : List V} {q : Addr} {Q : VK} (h2 : H p = some (.lst vs)) (hl : vs.length = os.length) (h3 : vs[j]? = some (.ref q)) (ek : ixN os.length k = some j) (h : Q (.ref q) H) : rIx K (.ref p) (.int k) H Q :=
  .inl ⟨p, vs, k, .ref q, rfl, rfl, SqL.of h2, by unfold atI; rw [hl, ek]; exact h3, h⟩
end DL
namespace DL
open PySem L2
variable {c : Cn} {X : Cx} {a b e : Expr} {es : List Expr} {f g fa fb : FE} {pos : Pos} {fs : Env → Res (List O)} {K : PySem.W.Frag} {H0 H H' Hf Hf' : Hp} {F G : FS} {st : Stmt} {sts : List Stmt} {ft : Env → Res Bool}
end DL
namespace DL
open PySem L2
variable {c : Cn} {X : Cx} {a b e : Expr} {es : List Expr} {f g fa fb : FE} {pos : Pos} {fs : Env → Res (List O)} {K : PySem.W.Frag} {H0 H H' Hf Hf' : Hp} {F G : FS} {st : Stmt} {sts : List Stmt} {ft : Env → Res Bool}
def frz (o : O) : O := .fz (er o)
mutual
def noTp : O → Bool
  | .fz _ => true
  | .ls os => noTps os
  | .tp _ => false
  | .ob _ _ _ => false
  | .dt _ _ => true
  | .dk _ _ => true
  | .gh _ _ _ => false
def noTps : List O → Bool
  | [] => true
  | o :: os => noTp o && noTps os
end
@[simp] theorem noTps_nil : noTps [] = true := (rfl)
@[simp] theorem noTps_cons (o : O) (os : List O) : noTps (o :: os) = (noTp o && noTps os) := (rfl)
@[simp] theorem noTp_fz (d : D) : noTp (.fz d) = true := (rfl)
@[simp] theorem noTp_ls (os : List O) : noTp (.ls os) = noTps os := (rfl)
@[simp] theorem noTps_map {α : Type} (f : α → D) (xs : List α) : noTps (xs.map fun x => O.fz (f x)) = true := by
  induction xs with
  | nil => rfl
  | cons x xs ih => simp [ih]
@[simp] theorem noTps_map2 (xs : List D) : noTps (xs.map O.fz) = true := noTps_map id xs
@[simp] theorem frz_fz (d : D) : frz (.fz d) = .fz d := (rfl)
def PostAO (c : Cn) (K : PySem.W.Frag) (s : St) (Hf H : Hp) (Q : List V → Hp → Prop) : Res (List O) → Prop
  | .ok os => ∀ vs Hf' H' L, Ext Hf H Hf' H' → RepOs K Hf' H' os vs L → Nw H Hf' H' L → Q vs H'
  | .exc e => PostX c K s Hf H e
  | .bad => False
def SoAO (c : Cn) (K : PySem.W.Frag) (t : TA) (f : Env → Res (List O)) : Prop := ∀ r s Hf H L, c.SR K r s Hf H L → ∀ Q, PostAO c K s Hf H Q (f r) → t s H Q
structure DAO (c : Cn) (X : Cx) (e : List Expr) (f : Env → Res (List O)) : Prop where
  ex : ∃ t, PA X e t ∧ SoAO c X.K t f
def aNilO : Env → Res (List O) := fun _ => .ok []
def aConsO (f : FE) (fs : Env → Res (List O)) : Env → Res (List O) := fun r => (f r).bind fun x => (fs r).bind fun xs => match newO x with
  | some o => .ok (o :: xs)
  | none => .bad
theorem dao_nil : DAO c X [] aNilO := ⟨tNil, pa_nil, fun r s Hf H L sr Q q => q [] Hf H [] (Ext.refl sr.sub) ⟨rfl, rfl⟩ nw_nil⟩
theorem PostX.mono2 {s : St} {Hf1 H1 : Hp} {e : Ec} (x : Ext Hf H Hf1 H1) (h : PostX c K s Hf H e) : PostX c K s Hf1 H1 e := fun cls d Hf' H' x2 h2 => h cls d Hf' H' (x.trans x2) h2
theorem dao_cons (h : DE c X e f) (hs : DAO c X es fs) (hst : starEach (e :: es) X.env = (false, eval e X.env) :: starEach es X.env := by rfl) : DAO c X (e :: es) (aConsO f fs) := by
  obtain ⟨t, p, s⟩ := h.ex
  obtain ⟨ts, ps, ss⟩ := hs.ex
  refine ⟨tCons t ts, pa_cons p ps hst, fun r s' Hf H L sr Q q => ?_⟩
  refine s r s' Hf H L sr _ ?_
  cases e0 : f r with
  | bad => simp only [aConsO, e0, Res.bind] at q; exact q.elim
  | exc e' => simp only [aConsO, e0, Res.bind] at q; exact q
  | ok x =>
    simp only [aConsO, e0, Res.bind] at q
    intro v Hf1 H1 L1 x1 h1 n1
    refine ss r s' Hf1 H1 L (sr.mono x1) _ ?_
    cases e1 : fs r with
    | bad => simp only [e1] at q; exact q.elim
    | exc e' => simp only [e1] at q; exact PostX.mono2 x1 q
    | ok xs =>
      simp only [e1] at q
      intro vs Hf2 H2 L2 x2 h2 n2
      cases x with
      | vw o => exact q.elim
      | bw o => exact q.elim
      | nw o =>
        refine q (v :: vs) Hf2 H2 (L1 ++ L2) (x1.trans x2) ⟨v, vs, L1, L2, rfl, rfl, RepO.mono x2.fsame o v L1 ((RepO.nx o v L1 h1).kp x2.same) h1, h2⟩ ⟨?_, fun a ha => ?_⟩
        · rw [List.nodup_append]
          refine ⟨n1.nd, n2.nd, fun a ha b hb z => ?_⟩
          subst z
          exact (n1.fr a ha).2.2 (n2.fr a hb).1
        · rcases List.mem_append.mp ha with h | h
          · obtain ⟨k1, k2, k3⟩ := n1.fr a h
            exact ⟨k1, x2.nf k3 k2, x2.same.ne_none k3⟩
          · obtain ⟨k1, k2, k3⟩ := n2.fr a h
            exact ⟨x1.same.free k1, k2, k3⟩
def eLstO (fs : Env → Res (List O)) : FE := fun r => (fs r).bind fun os => if os.length ≤ 1000 then .ok (.nw (.ls os)) else .bad
theorem de_lstO (h : DAO c X es fs) : DE c X (.List es pos) (eLstO fs) := by
  obtain ⟨t, p, s⟩ := h.ex
  refine ⟨tLst t, pe_lst p, fun r s' Hf H L sr Q q => ?_⟩
  refine s r s' Hf H L sr _ ?_
  cases e0 : fs r with
  | bad => simp only [eLstO, e0, Res.bind] at q; exact q.elim
  | exc e' => simp only [eLstO, e0, Res.bind] at q; exact q
  | ok os =>
    simp only [eLstO, e0, Res.bind] at q
    intro vs Hf1 H1 L1 x1 h1 n1
    by_cases hc : os.length ≤ 1000
    · rw [if_pos hc] at q
      refine ⟨by rw [RepOs.length h1]; exact Nat.le_trans hc (by decide), fun p hp => ?_⟩
      have x2 : Ext Hf1 H1 Hf1 (upd H1 p (.lst vs)) := Ext.new x1.sub hp
      refine q (.ref p) Hf1 _ (p :: L1) (x1.trans x2) ⟨p, vs, L1, rfl, upd_same, RepOs.mono (Same.refl _) os vs L1 ((RepOs.nx os vs L1 h1).kp x2.same) h1, rfl⟩ ⟨?_, fun a ha => ?_⟩
      · refine List.nodup_cons.mpr ⟨fun z => (n1.fr p z).2.2 hp, n1.nd⟩
      · rcases List.mem_cons.mp ha with h | h
        · subst h
          exact ⟨x1.same.free hp, sub_none x1.sub hp, by rw [upd_same]; simp⟩
        · obtain ⟨k1, k2, k3⟩ := n1.fr a h
          exact ⟨k1, k2, x2.same.ne_none k3⟩
    · rw [if_neg hc] at q; exact q.elim
end DL
namespace DL
open PySem L2
variable {c : Cn} {X : Cx} {a b e : Expr} {es : List Expr} {f g fa fb : FE} {pos : Pos} {fs : Env → Res (List O)} {K : PySem.W.Frag} {H0 H H' Hf Hf' : Hp} {F G : FS} {st : Stmt} {sts : List Stmt} {ft : Env → Res Bool}
def PostAR (c : Cn) (K : PySem.W.Frag) (s : St) (L : List Addr) (Hf H : Hp) (Q : List V → Hp → Prop) : Res (List O) → Prop
  | .ok os => ∀ vs Hf' H' M, Ext Hf H Hf' H' → RepOs K Hf' H' os vs M → M.Nodup → (∀ a ∈ M, (a ∈ L ∨ H a = none) ∧ Hf' a = none ∧ c.H0 a = none ∧ H' a ≠ none) → Q vs H'
  | .exc e => PostX c K s Hf H e
  | .bad => False
def SoAR (c : Cn) (K : PySem.W.Frag) (t : TA) (f : Env → Res (List O)) : Prop := ∀ r s Hf H L, c.SR K r s Hf H L → ∀ Q, PostAR c K s L Hf H Q (f r) → t s H Q
structure DAR (c : Cn) (X : Cx) (e : List Expr) (f : Env → Res (List O)) : Prop where
  ex : ∃ t, PA X e t ∧ SoAR c X.K t f
end DL
namespace DL
open PySem L2
section
variable {prog : Program} {w : World} {A : Around} {R : Result → Shared → Prop} {I : Addr} {fp wr : List Addr} {n : Nat} {P : Nat → Value → Prop} {St : Nat → Heap → Prop} {E : Value → Shared → Prop} {s : Shared}
end
section
variable {X : Cx}
end
section
variable {c : Cn} {X : Cx} {a b e : Expr} {es : List Expr} {f g fa fb : FE} {pos : Pos} {K : PySem.W.Frag} {H0 H H' Hf Hf' : Hp}
end
end DL
namespace DL
open PySem L2
variable {c : Cn} {X : Cx} {a b e : Expr} {es : List Expr} {f g fa fb : FE} {pos : Pos} {fs : Env → Res (List O)} {K : PySem.W.Frag} {H0 H H' Hf Hf' : Hp} {F G : FS} {st : Stmt} {sts : List Stmt} {ft : Env → Res Bool}
section
variable {CX : CXT} {k : Nat} {fA C : Addr} {fd : FuncData} {ps : List Str} {sp : Sp} {E : St → XK} {x m : Str} {p apos : Pos} {o : Expr} {ta : TE} {t : TA}
end
structure DefM (P : Program) (w : World) (K : PySem.W.Frag) (mg : Str → Option Value) (base : Heap) (c m : Str) (k n : Nat) (F : List O → Res O) : Prop where
  ex : ∃ f fd ps, FnOk P w K mg base (L2.CX P w) k f fd ps (spD K n F) ∧ Cls K (He.ga K c) ∧ Meth K (He.ga K c) m f ∧ Binds K fd ps [] ∧ ps.length = n
theorem SoE.runO {t : TE} {r : Env} {s : St} {L : List Addr} {x : R} (h : SoE c K t f) (sr : c.SR K r s Hf H L) (e : f r = .ok x) {Q : VK}
    (hq : ∀ v Hf1 H1, Ext Hf H Hf1 H1 → c.SR K r s Hf1 H1 L → ArgR K c.H0 Hf1 H1 x v → Q v H1) : t s H Q := by
  refine h r s Hf H L sr Q ?_
  rw [e]
  intro v Hf1 H1 L1 x1 q n
  have x2 := x1.add n q.nq
  exact hq v _ H1 x2 (sr.mono x2) (q.argR n)
section
variable {k n : Nat} {m : Str} {tab : List (Str × (List O → Res O))} {apos : Pos} {o : Expr} {fo : FE}
end
theorem SR.put {r : Env} {s : St} {L : List Addr} {i : Nat} {x : S} (sr : c.SR K r s Hf H L) (e : r[i]? = some x) : ∃ y A M B, s[i]? = some y ∧ L = A ++ M ++ B ∧ SlotR K Hf c.H0 H x y M ∧
    ∀ (a : Addr) (u u' : HO) (x' : S) (M' : List Addr), a ∈ M → H a = some u → (∀ φ : Hk, u ≠ φ.o) → (∀ xs, u ≠ .tup xs) → SlotR K Hf c.H0 (upd H a u') x' y M' → M'.Nodup →
      (∀ b ∈ M', b ∈ M ∨ (b ∉ L ∧ Hf b = none ∧ c.H0 b = none ∧ H b ≠ none)) → c.SR K (r.set i x') s Hf (upd H a u') (A ++ M' ++ B) := by
  obtain ⟨y, A, M, B, h1, h2, h3, h4⟩ := sr.env.at e
  refine ⟨y, A, M, B, h1, h2, h3, fun a u u' x' M' ha hu hn ht hs hnd hM => ?_⟩
  have haL : a ∈ L := by rw [h2]; simp [ha]
  have nd := sr.nd
  rw [h2] at nd
  simp only [List.nodup_append, List.mem_append] at nd
  obtain ⟨⟨n1, n2, d1⟩, n3, d2⟩ := nd
  have out : ∀ b ∈ A ++ B, b ≠ a := fun b hb e => by
    subst e
    rcases List.mem_append.mp hb with hb | hb
    · exact d1 b hb b ha rfl
    · exact d2 b (.inr ha) b hb rfl
  have env' := h4 Hf (upd H a u') x' y M' (Same.refl _) (Tst.up hu ht) (fun b hb w q => by rw [upd_ne (out b hb)]; exact q) hs
  have es : s.set i y = s := by
    obtain ⟨hl, hg⟩ := List.getElem?_eq_some_iff.mp h1
    rw [← hg]; exact List.set_getElem_self hl
  rw [es] at env'
  have ha0 := (sr.fr a haL).2
  have haf := (sr.fr a haL).1
  have inL : ∀ b ∈ A ++ B, b ∈ L := fun b hb => by
    rw [h2]; simp only [List.mem_append] at hb ⊢
    rcases hb with hb | hb <;> simp [hb]
  have notM : ∀ b ∈ A ++ B, b ∉ M' := fun b hb hm => by
    rcases hM b hm with hm | hm
    · rcases List.mem_append.mp hb with hb | hb
      · exact d1 b hb b hm rfl
      · exact d2 b (.inr hm) b hb rfl
    · exact hm.1 (inL b hb)
  refine ⟨⟨?_, sr.ext.fsame, ?_, sr.ext.keep, fun h => (sr.ext.rows h).set hu hn⟩, env', ?_, fun b hb => ?_, fun b hb => ?_, sr.rows.set hu hn⟩
  · exact fun b w q => by rw [upd_ne (ne_of_none q ha0)]; exact sr.ext.same b w q
  · exact fun b w q => by rw [upd_ne (ne_of_none q haf)]; exact sr.ext.sub b w q
  · simp only [List.nodup_append, List.mem_append]
    refine ⟨⟨n1, hnd, fun b hb d hd e => ?_⟩, n3, fun b hb d hd e => ?_⟩
    · subst e; exact notM b (by simp [hb]) hd
    · subst e
      rcases hb with hb | hb
      · exact d2 b (.inl hb) b hd rfl
      · exact notM b (by simp [hd]) hb
  · simp only [List.mem_append] at hb
    rcases hb with (hb | hb) | hb
    · exact sr.fr b (inL b (by simp [hb]))
    · rcases hM b hb with hm | hm
      · exact sr.fr b (by rw [h2]; simp [hm])
      · exact ⟨hm.2.1, hm.2.2.1⟩
    · exact sr.fr b (inL b (by simp [hb]))
  · have ok : H b ≠ none := by
      simp only [List.mem_append] at hb
      rcases hb with (hb | hb) | hb
      · exact sr.ok b (inL b (by simp [hb]))
      · rcases hM b hb with hm | hm
        · exact sr.ok b (by rw [h2]; simp [hm])
        · exact hm.2.2.2
      · exact sr.ok b (inL b (by simp [hb]))
    by_cases hba : b = a
    · subst hba; rw [upd_same]; simp
    · rw [upd_ne hba]; exact ok
end DL
namespace DL
open PySem L2
variable {c : Cn} {X : Cx} {a b e : Expr} {es : List Expr} {f g fa fb : FE} {pos : Pos} {fs : Env → Res (List O)} {K : PySem.W.Frag} {H0 H H' Hf Hf' : Hp} {F G : FS} {st : Stmt} {sts : List Stmt} {ft : Env → Res Bool}
section
variable {CX : CXT} {k : Nat} {fA C : Addr} {fd : FuncData} {ps : List Str} {sp : Sp} {E : St → XK} {x : Str} {p : Pos} {t : TA}
end
def startI (n : Nat) (c : Str) (a : Addr) (os : List O) : Env := S.me a (.ob c [] []) :: startE (n - 1) os
def runI (n : Nat) (c : Str) (F : FS) (a : Addr) : List O → Res O := fun os => match F (startI n c a os) with
  | .nx r => (match r[0]? with
    | some (S.me b o) => if b = a then .ok o else .bad
    | _ => .bad)
  | .exc e _ => .exc e
  | _ => .bad
def spI (K : PySem.W.Frag) (cn : Str) (n : Nat) (F : List O → Res O) : Sp := fun vs H Q E => ∃ (Hf H0 : Hp) (x dx : Addr) (ws : List V) (os : List O), vs = .ref x :: ws ∧ H = upd (upd H0 dx (.own x)) x (.ins (He.ga K cn) dx []) ∧ H0 x = none ∧ H0 dx = none ∧ dx ≠ x ∧
  Same Hf H0 ∧ Rows (tK K) Hf H0 ∧ RepVs K Hf H0 os ws ∧ os.length = n ∧ match F os with
  | .ok o => ∀ Hf' H' L, Ext Hf H0 Hf' H' → RepO K Hf' H' o (.ref x) L → Nw H0 Hf' H' L → Q .non H'
  | .exc e => ∀ cls d Hf' H', Ext Hf H0 Hf' H' → EcR K e cls d Hf' → E cls d H'
  | .bad => False
structure DefI (P : Program) (w : World) (K : PySem.W.Frag) (mg : Str → Option Value) (base : Heap) (x : Str) (k n : Nat) (F : List O → Res O) : Prop where
  ex : ∃ f fd ps, FnOk P w K mg base (L2.CX P w) k f fd ps (spI K x n F) ∧ Mk K (He.ga K x) f ∧ mg x = some (.ref (He.ga K x)) ∧ Binds K fd ps [] ∧ ps.length = n + 1
structure DefN (K : PySem.W.Frag) (mg : Str → Option Value) (x : Str) : Prop where
  mks : PySem.W.makesIn K (He.ga K x) = true
  hi : PySem.W.findIn K (.ref (He.ga K x)) "__init__" = some (some (.builtin "object.__init__"))
  kp : PySem.W.keepIn K (.ref (He.ga K x)) = true
  hm : mg x = some (.ref (He.ga K x))
theorem obj_new {cn : Str} {x dx : Addr} (sub : Same Hf H) (nx : H x = none) (nd : H dx = none) (ne : dx ≠ x) : Ext Hf H Hf (upd (upd H dx (.own x)) x (.ins (He.ga K cn) dx [])) ∧
    RepO K Hf (upd (upd H dx (.own x)) x (.ins (He.ga K cn) dx [])) (.ob cn [] []) (.ref x) [x, dx] ∧ Nw H Hf (upd (upd H dx (.own x)) x (.ins (He.ga K cn) dx [])) [x, dx] := by
  have x1 : Ext Hf H Hf (upd H dx (.own x)) := Ext.new sub nd
  have nx' : upd H dx (.own x) x = none := by rw [upd_ne ne.symm]; exact nx
  refine ⟨x1.trans (Ext.new x1.sub nx'), ⟨x, dx, [], [], rfl, upd_same, by rw [upd_ne ne, upd_same], rfl, ⟨rfl, rfl⟩, by decide, rfl⟩, ⟨by simp [ne.symm], fun b hb => ?_⟩⟩
  simp only [List.mem_cons, List.not_mem_nil, or_false] at hb
  rcases hb with rfl | rfl
  · exact ⟨nx, sub_none sub nx, by rw [upd_same]; simp⟩
  · exact ⟨nd, sub_none sub nd, by rw [upd_ne ne, upd_same]; simp⟩
section
variable {P : Program} {w : World} {mg : Str → Option Value} {base : Heap} {x m qual : Str} {params : Arguments} {body : List Stmt} {scope : Scope} {fA : Addr} {fd : FuncData} {N ps : List Str} {k n : Nat}
theorem DefM.ofD (Fn : FunD K x qual params body scope [] [] fA fd) (S : FnScope N ps scope) {cn : Str} (cl : Cls K (He.ga K cn)) (hm : Meth K (He.ga K cn) m fA) (hb : Binds K fd ps []) (hn : ps.length = n) (F : FS)
    (hbody : ∀ (cdv : Value) (A : Around) (outer : List PySem.Env) (s : Shared) (H : Hp) (E : XK) (Hf : Hp), Bk ⟨Hf, H, fun cls d _ H' => E cls d H'⟩ (cxOf (L2.CX P w) P w K mg base N qual scope fA cdv A outer s H E) k →
      DSs ⟨Hf, H, fun cls d _ H' => E cls d H'⟩ (cxOf (L2.CX P w) P w K mg base N qual scope fA cdv A outer s H E) body F) : DefM P w K mg base cn m (k + 1) n (runF N.length F) := by
  refine ⟨fA, fd, ps, ?_, cl, hm, hb, hn⟩
  subst hn
  refine Fn.ok S (fun vs H Q E h => ?_) (fun cdv A outer s H vs Q E hr h => ?_)
  · obtain ⟨Hf, os, _, _, h2, h3, _⟩ := h
    rw [RepVs.length h2, h3]
  · obtain ⟨Hf, os, sub, hro, h2, h3, h4⟩ := h
    have B : Bk ⟨Hf, H, fun cls d _ H' => E cls d H'⟩ (cxOf (L2.CX P w) P w K mg base N qual scope fA cdv A outer s H E) k := ⟨hr, takes_of rfl rfl rfl rfl, passes_of rfl, rfl⟩
    obtain ⟨t, p, so⟩ := (hbody cdv A outer s H E Hf B).ex
    refine ⟨t, p, ?_⟩
    have hl : vs.length = os.length := RepVs.length h2
    have sr : SR K Hf H (startE N.length os) (L2.start N vs) Hf H [] := by
      refine ⟨Ext.refl sub, ?_, List.nodup_nil, (fun _ h => nomatch h), (fun _ h => nomatch h), hro⟩
      unfold startE L2.start
      rw [hl]
      exact env_start h2
    refine so _ _ Hf H [] sr _ ?_
    unfold runF at h4
    cases e : F (startE N.length os) with
    | ret o => rw [e] at h4; exact fun v Hf' H' L _ x q n => h4 v Hf' H' L x q n
    | nx r => rw [e] at h4; exact fun s Hf' H' L f sr' => h4 .non Hf' H' [] sr'.ext ⟨rfl, rfl⟩ nw_nil
    | bk r => rw [e] at h4; exact h4.elim
    | ct r => rw [e] at h4; exact h4.elim
    | exc e' r => rw [e] at h4; exact fun s cls d Hf' H' L _ sr' h => h4 cls d Hf' H' sr'.ext h
    | bad => rw [e] at h4; exact h4.elim
theorem DefM.imp {cn : Str} {F F' : List O → Res O} (D : DefM P w K mg base cn m k n F) (h : ∀ os, os.length = n → F' os = .bad ∨ F' os = F os) : DefM P w K mg base cn m k n F' := by
  obtain ⟨fa, fd, ps, h1, h2⟩ := D.ex
  refine ⟨fa, fd, ps, h1.imp fun vs H Q E q => ?_, h2⟩
  obtain ⟨Hf, os, q1, q0, q2, q3, q4⟩ := q
  refine ⟨Hf, os, q1, q0, q2, q3, ?_⟩
  rcases h os q3 with e | e
  · rw [e] at q4; exact q4.elim
  · rw [← e]; exact q4
theorem DefI.ofD (Fn : FunD K x qual params body scope [] [] fA fd) (S : FnScope N ps scope) {cn : Str} (mk : Mk K (He.ga K cn) fA) (hm : mg cn = some (.ref (He.ga K cn))) (hb : Binds K fd ps []) (hn : ps.length = n + 1) (hN : N.length ≠ 0) (F : FS) (M : List O → Res O)
    (hbody : ∀ (cdv : Value) (A : Around) (outer : List PySem.Env) (s : Shared) (H H0 : Hp) (E : XK) (Hf : Hp), Bk ⟨Hf, H0, fun cls d _ H' => E cls d H'⟩ (cxOf (L2.CX P w) P w K mg base N qual scope fA cdv A outer s H E) k →
      DSs ⟨Hf, H0, fun cls d _ H' => E cls d H'⟩ (cxOf (L2.CX P w) P w K mg base N qual scope fA cdv A outer s H E) body F)
    (himp : ∀ a os, os.length = n → M os = .bad ∨ M os = runI N.length cn F a os) : DefI P w K mg base cn (k + 1) n M := by
  refine ⟨fA, fd, ps, ?_, mk, hm, hb, hn⟩
  refine Fn.ok S (fun vs H Q E h => ?_) (fun cdv A outer s H vs Q E hr h => ?_)
  · obtain ⟨Hf, H0, x, dx, ws, os, ev, _, _, _, _, _, _, h2, h3, _⟩ := h
    rw [ev, List.length_cons, RepVs.length h2, h3, hn]
  · obtain ⟨Hf, H0, x, dx, ws, os, ev, eH, nx, nd, ne, sub, hro, h2, h3, h4⟩ := h
    have B : Bk ⟨Hf, H0, fun cls d _ H' => E cls d H'⟩ (cxOf (L2.CX P w) P w K mg base N qual scope fA cdv A outer s H E) k := ⟨hr, takes_of rfl rfl rfl rfl, passes_of rfl, rfl⟩
    obtain ⟨t, p, so⟩ := (hbody cdv A outer s H H0 E Hf B).ex
    refine ⟨t, p, ?_⟩
    obtain ⟨o1, o2, o3⟩ := obj_new (K := K) (cn := cn) sub nx nd ne
    rw [← eH] at o1 o2 o3
    have hl : ws.length = os.length := RepVs.length h2
    have env1 : EnvR K Hf H0 H (startE (N.length - 1) os) (ws.map some ++ List.replicate (N.length - 1 - ws.length) none) [] := by
      unfold startE
      rw [hl]
      exact env_start h2
    have est : L2.start N vs = some (.ref x) :: (ws.map some ++ List.replicate (N.length - 1 - ws.length) none) := by
      unfold L2.start
      rw [ev]
      simp only [List.map_cons, List.cons_append, List.length_cons]
      rw [show N.length - (ws.length + 1) = N.length - 1 - ws.length by omega]
    have sr : SR K Hf H0 (startI N.length cn x os) (L2.start N vs) Hf H [x, dx] := by
      refine ⟨o1, ?_, o3.nd, fun b hb => ⟨(o3.fr b hb).2.1, (o3.fr b hb).1⟩, fun b hb => (o3.fr b hb).2.2, o1.rows hro⟩
      rw [est]
      exact ⟨_, _, [x, dx], [], rfl, by simp, ⟨rfl, o2⟩, env1⟩
    refine so _ _ Hf H _ sr _ ?_
    rcases himp x os h3 with z | z
    · rw [z] at h4; exact h4.elim
    · rw [z] at h4
      unfold runI at h4
      cases e : F (startI N.length cn x os) with
      | ret o => rw [e] at h4; exact h4.elim
      | nx r =>
        rw [e] at h4
        dsimp only at h4
        intro s1 Hf1 H1 L1 f1 sr1
        cases e0 : r[0]? with
        | none => rw [e0] at h4; exact h4.elim
        | some z0 =>
          rw [e0] at h4
          cases z0 with
          | un => exact h4.elim
          | tq _ => exact h4.elim
          | lt _ _ => exact h4.elim
          | fa _ => exact h4.elim
          | vl _ _ => exact h4.elim
          | me a1 o1 =>
            dsimp only at h4
            by_cases hx : a1 = x
            · rw [if_pos hx] at h4
              subst hx
              obtain ⟨y, A1, M1, B1, k1, k2, k3, _⟩ := sr1.env.at e0
              cases y with
              | none => exact k3.elim
              | some v =>
                obtain ⟨ev1, k4⟩ := k3
                subst ev1
                have sub : ∀ b ∈ M1, b ∈ L1 := fun b hb => by rw [k2]; simp [hb]
                have nd := sr1.nd
                rw [k2] at nd
                simp only [List.nodup_append] at nd
                exact h4 Hf1 H1 M1 sr1.ext k4 ⟨nd.1.2.1, fun b hb => ⟨(sr1.fr b (sub b hb)).2, (sr1.fr b (sub b hb)).1, sr1.ok b (sub b hb)⟩⟩
            · rw [if_neg hx] at h4; exact h4.elim
      | bk r => rw [e] at h4; exact h4.elim
      | ct r => rw [e] at h4; exact h4.elim
      | exc e' r => rw [e] at h4; exact fun s cls d Hf' H' L _ sr' h => h4 cls d Hf' H' sr'.ext h
      | bad => rw [e] at h4; exact h4.elim
end
end DL
namespace DL
open PySem L2
variable {c : Cn} {X : Cx} {a b e : Expr} {es : List Expr} {f g fa fb : FE} {pos : Pos} {fs : Env → Res (List O)} {K : PySem.W.Frag} {H0 H H' Hf Hf' : Hp} {F G : FS} {st : Stmt} {sts : List Stmt} {ft : Env → Res Bool}
def spNk (K : PySem.W.Frag) (C : Addr) (fn : Str) : Sp := fun vs H Q _ => ∃ (a : Addr) (y : V), vs = [.ref a, y] ∧ H a = some (exo a C none) ∧ ∀ d, H d = none → d ≠ a → Q .non (upd (upd H d (exd d [(fn, y)])) a (exo a C (some d)))
structure NkT (P : Program) (w : World) (K : PySem.W.Frag) (mg : Str → Option Value) (base : Heap) (x fn : Str) (k : Nat) : Prop where
  cls : OexC K (He.ga K x)
  ex : ∃ fI fd ps, FnOk P w K mg base CX0 k fI fd ps (spNk K (He.ga K x) fn) ∧ PySem.W.findIn K (.ref (He.ga K x)) "__init__" = some (some (.ref fI)) ∧ PySem.W.typeIn K (.ref fI) = some (.type "function") ∧ Binds K fd ps []
  g : mg x = some (.ref (He.ga K x))
  n : PySem.W.nsIn K mainGlobals x = some (some (.ref (He.ga K x)))
structure NkF (K : PySem.W.Frag) : Prop where
  oex : OexC K (He.ga K "NotKept")
  no : PySem.W.findIn K (.ref (He.ga K "NotKept")) "place" = some none
  iC : PySem.W.findIn K (.ref (He.ga K "NotKept")) "__init__" = some (some (.ref (He.ma K (He.ga K "NotKept") "__init__")))
  tI : PySem.W.typeIn K (.ref (He.ma K (He.ga K "NotKept") "__init__")) = some (.type "function")
  rd : PySem.W.readsIn K (He.ga K "SumError") (.type "type") = true
  gaS : PySem.W.specialIn K (.ref (He.ga K "SumError")) "__getattribute__" = some (some (.builtin "type.__getattribute__"))
  vV : PySem.W.findCls K (.ref (He.ga K "SumError")) (.type "type") "__init__" = some (.val (.builtin "ValueError.__init__"))
  xf : XfC K (He.ga K "NotKept")
  n : PySem.W.nsIn K mainGlobals "NotKept" = some (some (.ref (He.ga K "NotKept")))
end DL
namespace DL
open PySem L2
variable {c : Cn} {X : Cx} {a b e : Expr} {es : List Expr} {f g fa fb : FE} {pos : Pos} {fs : Env → Res (List O)} {K : PySem.W.Frag} {H0 H H' Hf Hf' : Hp} {F G : FS} {st : Stmt} {sts : List Stmt} {ft : Env → Res Bool}
section
variable {a C dx : Addr} {fl : List (Str × V)}
end
theorem kn_code {k c : Addr} {vs : List V} {q : Str} (e : Kn k vs = LamX.CodeO c q) : False := by
  have e1 := HO.ext.inj e
  let o : Obj := { cls := .none, data := .fields #[.none, .str q 0] }
  let h : Heap := { objs := Array.replicate (c + k + 1) o }
  have g : ∀ b : Nat, Nat.le b (Nat.add c k) → h.get? b = some o := fun b hb => by
    have : h.objs[b]? = some o := by
      show (Array.replicate (c + k + 1) o)[b]? = some o
      rw [Array.getElem?_replicate]
      exact if_pos (Nat.lt_succ_of_le hb)
    unfold Heap.get?
    rw [this]
  have z := congrFun e1 h
  have z2 : vs.length ≤ sizeLine ∧ ∃ (its : List Value) (n : Nat), Vals vs its ∧ h.get? k = some { cls := .type "list", data := .seq its.toArray n } := by
    rw [z]
    exact ⟨o, #[.none, .str q 0], 0, g c (Nat.le_add_right c k), rfl, rfl⟩
  obtain ⟨_, its, n, _, z3⟩ := z2
  rw [g k (Nat.le_add_left k c)] at z3
  have := congrArg Obj.data (Option.some.inj z3)
  cases this
theorem paired_get {α β : Type} {F : α → β → Prop} : ∀ {l : List α} {ws : List β} {i : Nat} {x : α}, Paired F l ws → l[i]? = some x → ∃ w, ws[i]? = some w ∧ F x w
  | _, _, _, _, .nil, e => by simp at e
  | _, _, 0, x, .cons r _, e => by simp at e; subst e; exact ⟨_, rfl, r⟩
  | _, _, i + 1, x, .cons _ t, e => by
    obtain ⟨u, h1, h2⟩ := paired_get (i := i) (x := x) t (by simpa using e)
    exact ⟨u, by simpa using h1, h2⟩
end DL
namespace DL
open PySem L2
variable {c : Cn} {X : Cx} {a b e : Expr} {es : List Expr} {f g fa fb : FE} {pos : Pos} {fs : Env → Res (List O)} {K : PySem.W.Frag} {H0 H H' Hf Hf' : Hp} {F G : FS} {st : Stmt} {sts : List Stmt} {ft : Env → Res Bool}
end DL
namespace DL
open PySem L2
variable {c : Cn} {X : Cx} {a b e : Expr} {es : List Expr} {f g fa fb : FE} {pos : Pos} {fs : Env → Res (List O)} {K : PySem.W.Frag} {H0 H H' Hf Hf' : Hp} {F G : FS} {st : Stmt} {sts : List Stmt} {ft : Env → Res Bool}
def gTup1 : List O → Res R
  | [o] => (match items o with | some os => tupR os | none => .bad)
  | _ => .bad
theorem call_tupleL {X : Cx} : CallR X (.type "tuple") (fun xs H Q => ∃ p ys, xs = [.ref p] ∧ SqL X.K H p ys ∧ ∀ l, H l = none → Q (.ref l) (upd H l (.tup ys))) := by
  intro pins s σ H xs us Q I r h
  obtain ⟨p, ys, e1, h1, h2⟩ := h
  exact call_tuple_of pins s σ H xs us Q I r ⟨p, ys, e1, .inl ⟨h1, h2⟩⟩
theorem pc_tup1 : PureC K (fun xs H Q => ∃ p ys, xs = [.ref p] ∧ SqL K H p ys ∧ ∀ l, H l = none → Q (.ref l) (upd H l (.tup ys))) gTup1 := fun c s Hf H vs os Q sub h q => by
  cases os with
  | nil => exact q.elim
  | cons o os =>
    cases os with
    | cons _ _ => exact q.elim
    | nil =>
      obtain ⟨v, e, h1⟩ := rep1 h
      subst e
      cases ei : items o with
      | none => simp only [gTup1, ei] at q; exact q.elim
      | some os =>
        simp only [gTup1, ei] at q
        cases ed : toDs os with
        | none => simp only [tupR, ed] at q; exact q.elim
        | some ds =>
          simp only [tupR, ed] at q
          by_cases hc : ds.length ≤ 1000
          · rw [if_pos hc] at q
            obtain ⟨a, vs, e1, h2, h3⟩ := items_rep sub h1 ei
            subst e1
            exact ⟨a, vs, rfl, h2, fun l hl => postE_tup sub q (toDs_rep ed h3) hl⟩
          · rw [if_neg hc] at q; exact q.elim
section
variable {prog : Program} {w : World} {A : Around} {E : Value → Shared → Prop} {s : Shared}
end
section
end
theorem Reps.drop : ∀ {ds : List D} {vs : List V} (n : Nat), Reps K H ds vs → Reps K H (ds.drop n) (vs.drop n)
  | [], _, n, h => by have h' : _ = _ := h; subst h'; cases n <;> rfl
  | d :: ds, _, 0, h => h
  | d :: ds, _, n + 1, h => by
    obtain ⟨v, r, e, h1, h2⟩ := h
    subst e
    exact Reps.drop n h2
theorem Reps.take : ∀ {ds : List D} {vs : List V} (n : Nat), Reps K H ds vs → Reps K H (ds.take n) (vs.take n)
  | [], _, n, h => by have h' : _ = _ := h; subst h'; cases n <;> rfl
  | d :: ds, _, 0, h => rfl
  | d :: ds, _, n + 1, h => by
    obtain ⟨v, r, e, h1, h2⟩ := h
    subst e
    exact ⟨v, _, rfl, h1, Reps.take n h2⟩
structure InsF (K : PySem.W.Frag) (C : Addr) : Prop where
  f1 : PySem.W.findIn K (.ref C) "__class__" = some (some (.builtin "object.__class__"))
  f2 : PySem.W.specialIn K (.builtin "object.__class__") "__get__" = some (some (.builtin "getset_descriptor.__get__"))
  f3 : PySem.W.takesIn K (.builtin "object.__class__") = some true
  f4 : PySem.W.mroIn K C (.type "object") = some true
structure IsOT (K : PySem.W.Frag) (x : Str) (tab : List (Str × Bool)) : Prop where
  at_ : ∀ n b, tab.lookup n = some b → Cls K (He.ga K n) ∧ InsF K (He.ga K n) ∧ PySem.W.kitOne K (.ref (He.ga K n)) (.ref (He.ga K x)) = some b
end DL
namespace DL
open PySem L2
variable {c : Cn} {X : Cx} {a b e : Expr} {es : List Expr} {f g fa fb : FE} {pos : Pos} {fs : Env → Res (List O)} {K : PySem.W.Frag} {H0 H H' Hf Hf' : Hp} {F G : FS} {st : Stmt} {sts : List Stmt} {ft : Env → Res Bool}
def Stay (t : TS) : Prop := ∀ D σ H, t ⟨fun σ' H' => σ' = σ → D.nx σ' H', D.rt, D.bk, D.ct⟩ σ H → t D σ H
structure DSt (c : Cn) (X : Cx) (st : Stmt) (f : FS) : Prop where
  ex : ∃ t, PS X st t ∧ SoS c X.K t f ∧ Stay t
theorem set_self {α : Type} {l : List α} {i : Nat} {x : α} (h : l[i]? = some x) : l.set i x = l := by
  obtain ⟨hl, hg⟩ := List.getElem?_eq_some_iff.mp h
  rw [← hg]; exact List.set_getElem_self hl
theorem RepVs.erase : ∀ {os : List O} {vs : List V} (n : Nat), RepVs K Hf H os vs → RepVs K Hf H (os.eraseIdx n) (vs.eraseIdx n)
  | [], _, n, h => by have h' : _ = _ := h; subst h'; rfl
  | o :: os, _, 0, h => by
    obtain ⟨v, r, e, h1, h2⟩ := h
    subst e
    exact h2
  | o :: os, _, n + 1, h => by
    obtain ⟨v, r, e, h1, h2⟩ := h
    subst e
    exact ⟨v, _, rfl, h1, RepVs.erase n h2⟩
def rmL (H : Hp) (L : List Addr) : Hp := fun b => if b ∈ L then none else H b
theorem rmL_in {L : List Addr} {b : Addr} (h : b ∈ L) : rmL H L b = none := if_pos h
theorem rmL_out {L : List Addr} {b : Addr} (h : b ∉ L) : rmL H L b = H b := if_neg h
theorem rmL_some {L : List Addr} {b : Addr} {o : HO} (h : rmL H L b = some o) : H b = some o ∧ b ∉ L := by
  by_cases hb : b ∈ L
  · rw [rmL_in hb] at h; cases h
  · exact ⟨by rw [← rmL_out (H := H) hb]; exact h, hb⟩
def startM (n j : Nat) (a : Addr) (os : List O) : Env := (startE n (os.set j (.fz .non))).set j (.me a (os.getD j (.fz .non)))
def runM (n j : Nat) (F : FS) (a : Addr) (os : List O) : Res (O × O) := match F (startM n j a os) with
  | .ret (.gh o b m) => if b = a then .ok (o, m) else .bad
  | _ => .bad
def spM (K : PySem.W.Frag) (n j : Nat) (F : List O → Res (O × O)) : Sp := fun vs H Q _ => ∃ (Hf : Hp) (a : Addr) (o : O) (L : List Addr) (os : List O), vs[j]? = some (.ref a) ∧ os[j]? = some o ∧ os.length = n ∧ vs.length = n ∧ Same Hf H ∧ Rows (tK K) Hf H ∧ RepO K Hf H o (.ref a) L ∧ L.Nodup ∧
  (∀ b ∈ L, Hf b = none ∧ H b ≠ none) ∧ RepVs K Hf (rmL H L) (os.set j (.fz .non)) (vs.set j .non) ∧ match F os with
  | .ok p => ∀ v Hf' H' L1 L2, Ext Hf (rmL H L) Hf' H' → RepO K Hf' H' p.1 v L1 → RepO K Hf' H' p.2 (.ref a) L2 → Nw (rmL H L) Hf' H' (L1 ++ L2) → Q v H'
  | _ => False
structure DefA (P : Program) (w : World) (K : PySem.W.Frag) (mg : Str → Option Value) (base : Heap) (x : Str) (k n j : Nat) (F : List O → Res (O × O)) : Prop where
  ex : ∃ f fd ps, FnOk P w K mg base (L2.CX P w) k f fd ps (spM K n j F) ∧ mg x = some (.ref f) ∧ PySem.W.keepIn K (.ref f) = true ∧ Binds K fd ps [] ∧ ps.length = n
section
variable {P : Program} {w : World} {mg : Str → Option Value} {base : Heap} {x qual : Str} {params : Arguments} {body : List Stmt} {scope : Scope} {fA : Addr} {fd : FuncData} {N ps : List Str} {k n j : Nat}
theorem fnA (Fn : FunD K x qual params body scope [] [] fA fd) (S : FnScope N ps scope) (hn : ps.length = n) (hj : j < n) (F : FS) (M : List O → Res (O × O))
    (hbody : ∀ (cdv : Value) (A : Around) (outer : List PySem.Env) (s : Shared) (H H0 : Hp) (E : XK) (Hf : Hp), Bk ⟨Hf, H0, fun cls d _ H' => E cls d H'⟩ (cxOf (L2.CX P w) P w K mg base N qual scope fA cdv A outer s H E) k →
      DSs ⟨Hf, H0, fun cls d _ H' => E cls d H'⟩ (cxOf (L2.CX P w) P w K mg base N qual scope fA cdv A outer s H E) body F)
    (himp : ∀ a os, os.length = n → M os = .bad ∨ M os = runM N.length j F a os) : FnOk P w K mg base (L2.CX P w) (k + 1) fA fd ps (spM K n j M) := by
  subst hn
  refine Fn.ok S (fun vs H Q E h => ?_) (fun cdv A outer s H vs Q E hr h => ?_)
  · obtain ⟨Hf, a, o, L, os, _, _, _, h1, _⟩ := h
    exact h1
  · obtain ⟨Hf, a, o, L, os, va, oa, ol, vl, sub, hro, hrep, hnd, hfr, hvs, h4⟩ := h
    have B : Bk ⟨Hf, rmL H L, fun cls d _ H' => E cls d H'⟩ (cxOf (L2.CX P w) P w K mg base N qual scope fA cdv A outer s H E) k := ⟨hr, takes_of rfl rfl rfl rfl, passes_of rfl, rfl⟩
    obtain ⟨t, p, so⟩ := (hbody cdv A outer s H (rmL H L) E Hf B).ex
    refine ⟨t, p, ?_⟩
    have ext0 : Ext Hf (rmL H L) Hf H := ⟨Same.sm fun b u e => (rmL_some e).1, Same.refl _, sub, fun _ _ h => h, fun h => h.up fun k vs e => (rmL_some e).1⟩
    have env0 : EnvR K Hf (rmL H L) H (startE N.length (os.set j (.fz .non))) ((vs.set j .non).map some ++ List.replicate (N.length - (os.set j (.fz .non)).length) none) [] := env_start hvs
    have ej : (startE N.length (os.set j (.fz .non)))[j]? = some (.vl false (.fz .non)) := by
      unfold startE
      rw [List.getElem?_append_left (by simp; omega)]
      simp [ol, hj]
    obtain ⟨y, A1, M1, B1, k1, k2, _, k4⟩ := env0.at ej
    have hAB : A1 = [] ∧ M1 = [] ∧ B1 = [] := by
      have := congrArg List.length k2
      simp only [List.length_nil, List.length_append] at this
      exact ⟨List.length_eq_zero_iff.mp (by omega), List.length_eq_zero_iff.mp (by omega), List.length_eq_zero_iff.mp (by omega)⟩
    obtain ⟨rfl, rfl, rfl⟩ := hAB
    have env1 := k4 Hf H (.me a o) (some (.ref a)) L (Same.refl _) Tst.rf (fun _ _ _ q => q) ⟨rfl, hrep⟩
    have est : ((vs.set j .non).map some ++ List.replicate (N.length - (os.set j (.fz .non)).length) none).set j (some (.ref a)) = L2.start N vs := by
      unfold L2.start
      rw [List.set_append_left _ _ (by simp; omega), List.length_set, ol, vl]
      congr 1
      rw [← List.map_set, List.set_set, set_self va]
    rw [est] at env1
    have eo : os.getD j (.fz .non) = o := by rw [List.getD_eq_getElem?_getD, oa]; rfl
    have sr : SR K Hf (rmL H L) (startM N.length j a os) (L2.start N vs) Hf H L := by
      refine ⟨ext0, ?_, hnd, fun b hb => ⟨(hfr b hb).1, rmL_in hb⟩, fun b hb => (hfr b hb).2, hro⟩
      unfold startM
      rw [eo]
      simpa using env1
    refine so _ _ Hf H L sr _ ?_
    rcases himp a os ol with z | z
    · rw [z] at h4; exact h4.elim
    · rw [z] at h4
      unfold runM at h4
      cases e : F (startM N.length j a os) with
      | ret q =>
        rw [e] at h4
        cases q with
        | gh o' b m =>
          dsimp only at h4
          by_cases hab : b = a
          · rw [if_pos hab] at h4
            subst hab
            intro v Hf' H' Lr _ x q' nw
            obtain ⟨L1, L2, g1, g2, g3⟩ := q'
            subst g3
            exact h4 v Hf' H' L1 L2 x g1 g2 nw
          · rw [if_neg hab] at h4; exact h4.elim
        | _ => exact h4.elim
      | nx r => rw [e] at h4; exact h4.elim
      | bk r => rw [e] at h4; exact h4.elim
      | ct r => rw [e] at h4; exact h4.elim
      | exc e' r => rw [e] at h4; exact h4.elim
      | bad => rw [e] at h4; exact h4.elim
theorem DefA.ofD (Fn : FunD K x qual params body scope [] [] fA fd) (S : FnScope N ps scope) (hm : mg x = some (.ref fA)) (hb : Binds K fd ps []) (hn : ps.length = n) (hj : j < n) (F : FS) (M : List O → Res (O × O))
    (hbody : ∀ (cdv : Value) (A : Around) (outer : List PySem.Env) (s : Shared) (H H0 : Hp) (E : XK) (Hf : Hp), Bk ⟨Hf, H0, fun cls d _ H' => E cls d H'⟩ (cxOf (L2.CX P w) P w K mg base N qual scope fA cdv A outer s H E) k →
      DSs ⟨Hf, H0, fun cls d _ H' => E cls d H'⟩ (cxOf (L2.CX P w) P w K mg base N qual scope fA cdv A outer s H E) body F)
    (himp : ∀ a os, os.length = n → M os = .bad ∨ M os = runM N.length j F a os) : DefA P w K mg base x (k + 1) n j M :=
  ⟨fA, fd, ps, fnA Fn S hn hj F M hbody himp, hm, Fn.kp, hb, hn⟩
structure DefMM (P : Program) (w : World) (K : PySem.W.Frag) (mg : Str → Option Value) (base : Heap) (cn m : Str) (k n : Nat) (F : List O → Res (O × O)) : Prop where
  ex : ∃ f fd ps, FnOk P w K mg base (L2.CX P w) k f fd ps (spM K n 0 F) ∧ Cls K (He.ga K cn) ∧ Meth K (He.ga K cn) m f ∧ Binds K fd ps [] ∧ ps.length = n
theorem DefMM.ofD (Fn : FunD K x qual params body scope [] [] fA fd) (S : FnScope N ps scope) {cn m : Str} (cl : Cls K (He.ga K cn)) (hm : Meth K (He.ga K cn) m fA) (hb : Binds K fd ps []) (hn : ps.length = n) (hj : 0 < n) (F : FS) (M : List O → Res (O × O))
    (hbody : ∀ (cdv : Value) (A : Around) (outer : List PySem.Env) (s : Shared) (H H0 : Hp) (E : XK) (Hf : Hp), Bk ⟨Hf, H0, fun cls d _ H' => E cls d H'⟩ (cxOf (L2.CX P w) P w K mg base N qual scope fA cdv A outer s H E) k →
      DSs ⟨Hf, H0, fun cls d _ H' => E cls d H'⟩ (cxOf (L2.CX P w) P w K mg base N qual scope fA cdv A outer s H E) body F)
    (himp : ∀ a os, os.length = n → M os = .bad ∨ M os = runM N.length 0 F a os) : DefMM P w K mg base cn m (k + 1) n M :=
  ⟨fA, fd, ps, fnA Fn S hn hj F M hbody himp, cl, hm, hb, hn⟩
end
def SoAm (c : Cn) (K : PySem.W.Frag) (t : TA) (fs : Env → Res (List O)) (j i : Nat) : Prop := ∀ r s Hf H L, c.SR K r s Hf H L → ∀ Q : List V → Hp → Prop, (match fs r with
  | .ok os => ∀ vs Hf' H', Ext Hf H Hf' H' → RepVs K Hf' H' os vs → (∃ v, s[i]? = some (some v) ∧ vs[j]? = some v) → Q vs H'
  | _ => False) → t s H Q
structure DAm (c : Cn) (X : Cx) (es : List Expr) (fs : Env → Res (List O)) (j i : Nat) : Prop where
  ex : ∃ t, PA X es t ∧ SoAm c X.K t fs j i
end DL
namespace L2
open PySem PySem.Spec PyProof.Rows
section
variable {M : Model} {A : Around} {E : Value → Shared → Prop} {s : Shared} {Z : Obj → Prop} {G : Heap} {env : Env} {outer : List Env} {L a : Addr}
end
section
variable {X : Cx} {W : WX} {pins : List (Addr × Obj)} {σ : St} {H3 : Hp} {s3 : Shared} {scope : Scope} {ce : Env} {fp : List Addr}
end
end L2
namespace DL
open PySem L2
variable {c : Cn} {X : Cx} {a b e : Expr} {es : List Expr} {f g fa fb : FE} {pos : Pos} {fs : Env → Res (List O)} {K : PySem.W.Frag} {H0 H H' Hf Hf' : Hp} {F G : FS} {st : Stmt} {sts : List Stmt} {ft : Env → Res Bool}
section
variable {k : Nat} {elt tg iter : Expr} {scope : Scope} {own : List (Str × Nat)} {fi : Env → Res (List R)} {fg : FG}
end
end DL
namespace DL
open PySem L2
variable {c : Cn} {X : Cx} {a b e : Expr} {es : List Expr} {f g fa fb : FE} {pos : Pos} {fs : Env → Res (List O)} {K : PySem.W.Frag} {H0 H H' Hf Hf' : Hp} {F G : FS} {st : Stmt} {sts : List Stmt} {ft : Env → Res Bool}
def atP : List Nat → O → Option O
  | [], o => some o
  | j :: p, .ls os => (os[j]?).bind (atP p)
  | j :: p, .tp os => (os[j]?).bind (atP p)
  | _ :: _, _ => none
def setP (x : O) : List Nat → O → O
  | [], _ => x
  | j :: p, .ls os => (match os[j]? with | some o => .ls (os.set j (setP x p o)) | none => .ls os)
  | j :: p, .tp os => (match os[j]? with | some o => .tp (os.set j (setP x p o)) | none => .tp os)
  | _ :: _, o => o
def PathA (H : Hp) : List Nat → V → V → Prop
  | [], v, w => v = w
  | j :: p, v, w => ∃ a vs u, v = .ref a ∧ (H a = some (.lst vs) ∨ H a = some (.tup vs)) ∧ vs[j]? = some u ∧ PathA H p u w
theorem PathA.mono (s : Sm H H') : ∀ {p : List Nat} {v w : V}, PathA H p v w → PathA H' p v w
  | [], _, _, h => h
  | j :: p, _, _, ⟨a, vs, u, e1, h1, h2, h3⟩ => ⟨a, vs, u, e1, h1.imp (fun z => s.lst z) (fun z => s.tup z), h2, PathA.mono s h3⟩
theorem PathA.fn : ∀ {p : List Nat} {v w w' : V}, PathA H p v w → PathA H p v w' → w = w'
  | [], _, _, _, h, h' => h.symm.trans h'
  | j :: p, _, _, _, ⟨a, vs, u, e1, h1, h2, h3⟩, ⟨a', vs', u', e1', h1', h2', h3'⟩ => by
    subst e1
    cases e1'
    have ev : vs = vs' := by
      rcases h1 with h1 | h1 <;> rcases h1' with h1' | h1' <;> rw [h1] at h1' <;> cases h1' <;> rfl
    subst ev
    rw [h2] at h2'
    cases h2'
    exact PathA.fn h3 h3'
theorem PathA.snoc : ∀ {p : List Nat} {v : V} {a : Addr} {vs : List V} {j : Nat} {u : V}, PathA H p v (.ref a) → (H a = some (.lst vs) ∨ H a = some (.tup vs)) → vs[j]? = some u → PathA H (p ++ [j]) v u
  | [], _, a, vs, j, u, h, h1, h2 => ⟨a, vs, u, h, h1, h2, rfl⟩
  | i :: p, _, a, vs, j, u, ⟨a0, vs0, u0, e1, k1, k2, k3⟩, h1, h2 => ⟨a0, vs0, u0, e1, k1, k2, PathA.snoc k3 h1 h2⟩
theorem atP_snoc : ∀ {p : List Nat} {o o1 : O} {j : Nat}, atP p o = some o1 → atP (p ++ [j]) o = atP [j] o1
  | [], o, o1, j, h => by cases h; rfl
  | i :: p, .ls os, o1, j, h => by
    simp only [atP] at h
    cases e : os[i]? with
    | none => rw [e] at h; cases h
    | some z =>
      rw [e] at h
      have := atP_snoc (p := p) (j := j) h
      simp only [List.cons_append, atP, e, Option.bind_some]
      rw [this]
  | i :: p, .tp os, o1, j, h => by
    simp only [atP] at h
    cases e : os[i]? with
    | none => rw [e] at h; cases h
    | some z =>
      rw [e] at h
      have := atP_snoc (p := p) (j := j) h
      simp only [List.cons_append, atP, e, Option.bind_some]
      rw [this]
  | _ :: _, .fz _, _, _, h => by cases h
  | _ :: _, .ob _ _ _, _, _, h => by cases h
  | _ :: _, .dt _ _, _, _, h => by cases h
  | _ :: _, .dk _ _, _, _, h => by cases h
  | _ :: _, .gh _ _ _, _, _, h => by cases h
theorem RepO.path : ∀ (p : List Nat) (o : O) (v : V) (L : List Addr) (o1 : O), RepO K Hf H o v L → atP p o = some o1 → ∃ v1 A M B, L = A ++ M ++ B ∧ PathA H p v v1 ∧ RepO K Hf H o1 v1 M ∧
    ∀ (Hf' H' : Hp) (x : O) (M' : List Addr), Same Hf Hf' → (∀ a ∈ A ++ B, ∀ u, H a = some u → H' a = some u) → RepO K Hf' H' x v1 M' → RepO K Hf' H' (setP x p o) v (A ++ M' ++ B)
  | [], o, v, L, o1, h, e => by
    cases e
    exact ⟨v, [], L, [], by simp, rfl, h, fun Hf' H' x M' _ _ q => by simpa [setP] using q⟩
  | j :: p, .ls os, v, L, o1, h, e => by
    obtain ⟨a, vs, M0, e1, h1, h2, e2⟩ := h
    subst e1 e2
    simp only [atP] at e
    cases ej : os[j]? with
    | none => rw [ej] at e; cases e
    | some o2 =>
      rw [ej] at e
      obtain ⟨v2, L1, N, L2, g1, g2, g3, g4⟩ := RepOs.at h2 ej
      subst g2
      obtain ⟨v1, A, M, B, e3, e4, e5, e6⟩ := RepO.path p o2 v2 N o1 g3 e
      subst e3
      refine ⟨v1, a :: (L1 ++ A), M, B ++ L2, by simp [List.append_assoc], ⟨a, vs, v2, rfl, .inl h1, g1, e4⟩, e5, fun Hf' H' x M' f k q => ?_⟩
      simp only [setP, ej]
      refine ⟨a, vs, L1 ++ (A ++ M' ++ B) ++ L2, rfl, k a (by simp) _ h1, ?_, by simp [List.append_assoc]⟩
      exact g4 Hf' H' _ _ f (fun b hb => k b (by simp only [List.mem_append, List.mem_cons] at hb ⊢; rcases hb with hb | hb <;> simp [hb])) (e6 Hf' H' x M' f (fun b hb => k b (by simp only [List.mem_append, List.mem_cons] at hb ⊢; rcases hb with hb | hb <;> simp [hb])) q)
  | j :: p, .tp os, v, L, o1, h, e => by
    obtain ⟨a, vs, M0, e1, h1, h2, e2⟩ := h
    subst e1 e2
    simp only [atP] at e
    cases ej : os[j]? with
    | none => rw [ej] at e; cases e
    | some o2 =>
      rw [ej] at e
      obtain ⟨v2, L1, N, L2, g1, g2, g3, g4⟩ := RepOs.at h2 ej
      subst g2
      obtain ⟨v1, A, M, B, e3, e4, e5, e6⟩ := RepO.path p o2 v2 N o1 g3 e
      subst e3
      refine ⟨v1, a :: (L1 ++ A), M, B ++ L2, by simp [List.append_assoc], ⟨a, vs, v2, rfl, .inr h1, g1, e4⟩, e5, fun Hf' H' x M' f k q => ?_⟩
      simp only [setP, ej]
      refine ⟨a, vs, L1 ++ (A ++ M' ++ B) ++ L2, rfl, k a (by simp) _ h1, ?_, by simp [List.append_assoc]⟩
      exact g4 Hf' H' _ _ f (fun b hb => k b (by simp only [List.mem_append, List.mem_cons] at hb ⊢; rcases hb with hb | hb <;> simp [hb])) (e6 Hf' H' x M' f (fun b hb => k b (by simp only [List.mem_append, List.mem_cons] at hb ⊢; rcases hb with hb | hb <;> simp [hb])) q)
  | _ :: _, .fz _, _, _, _, _, e => by cases e
  | _ :: _, .ob _ _ _, _, _, _, _, e => by cases e
  | _ :: _, .dt _ _, _, _, _, _, e => by cases e
  | _ :: _, .dk _ _, _, _, _, _, e => by cases e
  | _ :: _, .gh _ _ _, _, _, _, _, e => by cases e
theorem SR.putP {r : Env} {s : St} {L : List Addr} {i : Nat} {p : List Nat} {o o1 : O} (sr : c.SR K r s Hf H L) (e : r[i]? = some (.vl true o)) (ep : atP p o = some o1) :
    ∃ v v1 M, s[i]? = some (some v) ∧ PathA H p v v1 ∧ RepO K Hf H o1 v1 M ∧ ((∀ b ∈ M, b ∈ L) ∧ M.Nodup) ∧
      ∀ (q : Addr) (u u' : HO) (x : O) (M' : List Addr), q ∈ M → H q = some u → (∀ φ : Hk, u ≠ φ.o) → (∀ xs, u ≠ .tup xs) → RepO K Hf (upd H q u') x v1 M' → M'.Nodup → (∀ b ∈ M', b ∈ M) → ∃ L', c.SR K (r.set i (.vl true (setP x p o))) s Hf (upd H q u') L' := by
  obtain ⟨y, A, M0, B, h1, h2, h3, h4⟩ := sr.put e
  cases y with
  | none => exact h3.elim
  | some v =>
    obtain ⟨v1, A1, M, B1, e3, e4, e5, e6⟩ := RepO.path p o v M0 o1 h3 ep
    subst e3
    refine ⟨v, v1, M, h1, e4, e5, ⟨fun b hb => by rw [h2]; simp [hb], ?_⟩, fun q u u' x M' hq hu hn ht hr hnd hM => ?_⟩
    · have nd := sr.nd
      rw [h2] at nd
      simp only [List.nodup_append, List.mem_append] at nd
      exact nd.1.2.1.1.2.1
    have nd := sr.nd
    rw [h2] at nd
    have nd0 : (A1 ++ M ++ B1).Nodup := by
      simp only [List.nodup_append, List.mem_append] at nd ⊢
      exact nd.1.2.1
    have n2 := nd0
    simp only [List.nodup_append, List.mem_append] at n2
    obtain ⟨⟨n21, n22, d21⟩, n23, d22⟩ := n2
    have out : ∀ b ∈ A1 ++ B1, b ≠ q := fun b hb z => by
      subst z
      rcases List.mem_append.mp hb with hb | hb
      · exact d21 b hb b hq rfl
      · exact d22 b (.inr hq) b hb rfl
    have hx := e6 Hf (upd H q u') x M' (Same.refl _) (fun b hb w z => by rw [upd_ne (out b hb)]; exact z) hr
    refine ⟨_, h4 q u u' (.vl true (setP x p o)) (A1 ++ M' ++ B1) (by simp [hq]) hu hn ht hx ?_ fun b hb => .inl ?_⟩
    · simp only [List.nodup_append, List.mem_append]
      exact ⟨⟨n21, hnd, fun x hx y hy => d21 x hx y (hM y hy)⟩, n23, fun x hx y hy => d22 x (hx.imp id (hM x)) y hy⟩
    · simp only [List.mem_append] at hb ⊢
      rcases hb with (hb | hb) | hb
      · exact .inl (.inl hb)
      · exact .inl (.inr (hM b hb))
      · exact .inr hb
def lenP : O → Option Nat
  | .ls os => some os.length
  | .tp os => some os.length
  | _ => none
def pVar (i : Nat) : Env → Res (List Nat) := fun r => match r[i]? with
  | some (.vl true _) => .ok []
  | _ => .bad
def pIx (i : Nat) (fp : Env → Res (List Nat)) (g : FE) : Env → Res (List Nat) := fun r => (fp r).bind fun p => (g r).bind fun y => match y.a, r[i]? with
  | .fz (.int k), some (.vl true o) => (match (atP p o).bind lenP with
    | some n => (match ixN n k with
      | some j => .ok (p ++ [j])
      | none => .bad)
    | none => .bad)
  | _, _ => .bad
def PostPa (c : Cn) (K : PySem.W.Frag) (i : Nat) (r : Env) (s : St) (Hf H : Hp) (L : List Addr) (Q : V → Hp → Prop) : Res (List Nat) → Prop
  | .ok p => ∀ Hf1 H1 v w o, Ext Hf H Hf1 H1 → c.SR K r s Hf1 H1 L → s[i]? = some (some v) → r[i]? = some (.vl true o) → (∃ o1, atP p o = some o1) → PathA H1 p v w → Q w H1
  | .exc e => PostX c K s Hf H e
  | .bad => False
def SoPa (c : Cn) (K : PySem.W.Frag) (t : TE) (i : Nat) (fp : Env → Res (List Nat)) : Prop := ∀ r s Hf H L, c.SR K r s Hf H L → ∀ Q, PostPa c K i r s Hf H L Q (fp r) → t s H Q
structure DPa (c : Cn) (X : Cx) (e : Expr) (i : Nat) (fp : Env → Res (List Nat)) : Prop where
  ex : ∃ t, PE X e t ∧ SoPa c X.K t i fp
theorem dpa_var {i : Nat} (h : PE X e (tVar i)) : DPa c X e i (pVar i) := by
  refine ⟨tVar i, h, fun r s Hf H L sr Q q => ?_⟩
  unfold pVar at q
  split at q
  case h_2 => exact q.elim
  rename_i o hi
  obtain ⟨v, hv, _⟩ := sr.slot hi
  exact ⟨v, hv, q Hf H v v o (Ext.refl sr.sub) sr hv hi ⟨o, rfl⟩ rfl⟩
theorem dpa_ix {i : Nat} {fp : Env → Res (List Nat)} {ei : Expr} (h : DPa c X e i fp) (hi : DE c X ei g) (hp : PlainIx ei := by exact fun _ _ => rfl) : DPa c X (.Subscript e ei pos) i (pIx i fp g) := by
  obtain ⟨t1, p1, s1⟩ := h.ex
  obtain ⟨t2, p2, s2⟩ := hi.ex
  refine ⟨_, pe_ix ix_seq p1 p2 hp, fun r s Hf H L sr Q q => ?_⟩
  refine s1 r s Hf H L sr _ ?_
  unfold pIx at q
  cases e1 : fp r with
  | bad => rw [e1] at q; exact q.elim
  | exc e' => rw [e1] at q; exact q
  | ok p =>
    rw [e1] at q
    simp only [Res.bind] at q
    intro Hf1 H1 v w o x1 sr1 hv ho hs hw
    refine s2 r s Hf1 H1 L sr1 _ ?_
    cases e2 : g r with
    | bad => rw [e2] at q; exact q.elim
    | exc e' => rw [e2] at q; exact fun cls d Hf' H' x er => q cls d Hf' H' (x1.trans x) er
    | ok y =>
      rw [e2] at q
      simp only [ho] at q
      intro u Hf2 H2 L2 x2 a2 n2
      have b2 := (a2.argR n2).a (sr1.mono x2).same0
      have x3 := x2.add n2 a2.nq
      obtain ⟨o1, ho1⟩ := hs
      split at q
      case h_2 => exact q.elim
      rename_i k o' ey eo
      cases eo
      rw [ey] at b2
      have eu : u = .int k := b2
      subst eu
      rw [ho1] at q
      simp only [Option.bind_some] at q
      split at q
      case h_2 => exact q.elim
      rename_i n en
      split at q
      case h_2 => exact q.elim
      rename_i j ej
      have sr3 := sr1.mono x3
      obtain ⟨yv, A, M, B, k1, k2, k3, _⟩ := sr3.env.at ho
      rw [hv] at k1
      cases k1
      obtain ⟨v1, A1, M1, B1, g1, g2, g3, _⟩ := RepO.path p o v M o1 k3 ho1
      have hw2 := PathA.mono x3.same hw
      have ev := PathA.fn hw2 g2
      subst ev
      have hj := ixN_lt ej
      cases o1 with
      | ls os =>
        cases en
        obtain ⟨a, vs, M2, f1, f2, f3, f4⟩ := g3
        subst f1
        have lv := RepOs.length f3
        have hj' : j < vs.length := by omega
        have gv : vs[j]? = some vs[j] := List.getElem?_eq_getElem hj'
        refine .inl ⟨a, vs, k, vs[j], rfl, rfl, SqL.of f2, by unfold atI; rw [lv, ej]; exact gv, ?_⟩
        exact q _ H2 v vs[j] o (x1.trans x3) sr3 hv ho ⟨os[j], by rw [atP_snoc ho1]; simp [atP, hj]⟩ (PathA.snoc hw2 (.inl f2) gv)
      | tp os =>
        cases en
        obtain ⟨a, vs, M2, f1, f2, f3, f4⟩ := g3
        subst f1
        have lv := RepOs.length f3
        have hj' : j < vs.length := by omega
        have gv : vs[j]? = some vs[j] := List.getElem?_eq_getElem hj'
        refine .inr (.inl ⟨a, vs, k, vs[j], rfl, rfl, SqT.of f2, by unfold atI; rw [lv, ej]; exact gv, ?_⟩)
        exact q _ H2 v vs[j] o (x1.trans x3) sr3 hv ho ⟨os[j], by rw [atP_snoc ho1]; simp [atP, hj]⟩ (PathA.snoc hw2 (.inr f2) gv)
      | _ => cases en
def onP (i : Nat) (fp : Env → Res (List Nat)) (k : List Nat → O → O → FS) : FS := fun r => match fp r with
  | .ok p => (match r[i]? with
    | some (.vl true o) => (match atP p o with
      | some o1 => k p o o1 r
      | none => .bad)
    | _ => .bad)
  | .exc e => .exc e r
  | .bad => .bad
theorem SoPa.use {t : TE} {i : Nat} {fp : Env → Res (List Nat)} (h : SoPa c K t i fp) {r : Env} {s : St} {L : List Addr} {k : List Nat → O → O → FS} {D : Ends} (sr : c.SR K r s Hf H L) (q : PostS c K Hf D (onP i fp k r)) {Q : VK}
    (hq : ∀ p o o1 Hf1 H1 v w, Ext Hf H Hf1 H1 → c.SR K r s Hf1 H1 L → s[i]? = some (some v) → r[i]? = some (.vl true o) → atP p o = some o1 → PathA H1 p v w → PostS c K Hf1 D (k p o o1 r) → Q w H1) : t s H Q := by
  refine h r s Hf H L sr _ ?_
  unfold onP at q
  cases e1 : fp r with
  | bad => rw [e1] at q; exact q.elim
  | exc e' => rw [e1] at q; exact fun cls d Hf' H' x er => q s cls d Hf' H' L x.fsame (sr.mono x) er
  | ok p =>
    rw [e1] at q
    intro Hf1 H1 v w o x1 sr1 hv ho ⟨o1, ho1⟩ hw
    simp only [ho, ho1] at q
    exact hq p o o1 Hf1 H1 v w x1 sr1 hv ho ho1 hw (q.mono x1.fsame)
end DL
namespace DL
open PySem L2
variable {c : Cn} {X : Cx} {a b e : Expr} {es : List Expr} {f g fa fb : FE} {pos : Pos} {fs : Env → Res (List O)} {K : PySem.W.Frag} {H0 H H' Hf Hf' : Hp} {F G : FS} {st : Stmt} {sts : List Stmt} {ft : Env → Res Bool}
theorem EnvR.h0 {H0' : Hp} (z : Sm H0 H0') : ∀ {r : Env} {s : St} {L : List Addr}, EnvR K Hf H0 H r s L → EnvR K Hf H0' H r s L
  | [], _, _, h => h
  | x :: r, _, _, h => by
    obtain ⟨y, t, L1, L2, e1, e2, h1, h2⟩ := h
    refine ⟨y, t, L1, L2, e1, e2, ?_, EnvR.h0 z h2⟩
    cases x with
    | un => exact h1
    | me a o =>
      cases y with
      | none => exact h1
      | some v => exact h1
    | tq k =>
      cases y with
      | none => exact h1
      | some v => exact h1
    | fa k =>
      cases y with
      | none => exact h1
      | some v => exact h1
    | lt a o =>
      cases y with
      | none => exact h1
      | some v => exact ⟨h1.1, h1.2.1, RepV.mono (Same.refl _) z o v h1.2.2⟩
    | vl w o =>
      cases y with
      | none => cases w <;> exact h1
      | some v =>
        cases w with
        | true => exact h1
        | false => exact ⟨RepV.mono (Same.refl _) z o v h1.1, h1.2⟩
end DL
namespace DL
open PySem L2
variable {K : PySem.W.Frag}
section
variable {P : Program} {w : World} {mg : Str → Option Value} {base : Heap}
end
end DL
namespace DL
open PySem L2
section
variable {c : Cn} {X : Cx} {e : Expr} {es : List Expr} {pos : Pos} {fs : Env → Res (List O)} {K : PySem.W.Frag} {H0 H H' Hf Hf' : Hp}
def spC (K : PySem.W.Frag) (HfE : Hp) (n : Nat) (G : List O → Res O) : Sp := fun vs H Q E => ∃ Hf os, Same HfE Hf ∧ Same Hf H ∧ Rows (tK K) Hf H ∧ RepVs K Hf H os vs ∧ os.length = n ∧ match G os with
  | .ok o => ∀ v Hf' H' L, Ext Hf H Hf' H' → RepO K Hf' H' o v L → Nw H Hf' H' L → Q v H'
  | .exc e => ∀ cls d Hf' H', Ext Hf H Hf' H' → EcR K e cls d Hf' → E cls d H'
  | .bad => False
structure CloF (P : Program) (w : World) (K : PySem.W.Frag) (mg : Str → Option Value) (base : Heap) (HfE : Hp) (k : Nat) (f : Addr) (F : NdefX.NF) (n : Nat) (G : List O → Res O) : Prop where
  run : ∀ (A : Around) (outer : List PySem.Env) (s : Shared) (H : Hp) (us : List Value) (vs : List V) (Q : VK) (E : XK), Room k A → Env0 P w K mg base A outer s H → H f = some (NdefX.FnO f F) → H F.c = some (LamX.CodeO F.c F.qual) → Vals vs us →
    spC K HfE n G vs H Q E → codeAny (model P w) A (.call (.ref f) ⟨us, []⟩) (L2.CR (L2.CX P w) outer P w H s Q E) s
theorem obj_heap (o : Obj) (hd : o.data ≠ .freed) (a b : Addr) : ∃ h : Heap, h.get? a = some o ∧ h.get? b = some o := by
  refine ⟨⟨Array.replicate (Nat.succ (Nat.add a b)) o, {}⟩, ?_, ?_⟩ <;>
  · unfold Heap.get?
    simp only [Array.getElem?_replicate]
    rw [if_pos (Nat.lt_succ_of_le (by first | exact Nat.le_add_right _ _ | exact Nat.le_add_left _ _))]
    obtain ⟨c, d, dt, sl⟩ := o
    cases dt <;> first | rfl | exact absurd rfl hd
theorem kn_fn {k f : Addr} {vs : List V} {F : NdefX.NF} (e : Kn k vs = NdefX.FnO f F) : False := by
  have e1 := HO.ext.inj e
  obtain ⟨h, h1, h2⟩ := obj_heap (⟨.type "function", none, .func (F.fd .none .none .none), #[]⟩ : Obj) (fun z => nomatch z) f k
  have z := congrFun e1 h
  have z2 : vs.length ≤ sizeLine ∧ ∃ (its : List Value) (n : Nat), Vals vs its ∧ h.get? k = some { cls := .type "list", data := .seq its.toArray n } := by
    rw [z]
    exact ⟨none, #[], .none, .none, .none, h1⟩
  obtain ⟨_, its, n, _, z3⟩ := z2
  rw [h2] at z3
  have := congrArg Obj.data (Option.some.inj z3)
  cases this
theorem fn_nk {f : Addr} {F : NdefX.NF} : ¬ isKn (NdefX.FnO f F) := fun z => by
  rcases z with ⟨k, vs, e⟩ | ⟨ps, e⟩
  · exact kn_fn e.symm
  · cases e
theorem code_nk {a : Addr} {q : Str} : ¬ isKn (LamX.CodeO a q) := fun z => by
  rcases z with ⟨k, vs, e⟩ | ⟨ps, e⟩
  · exact kn_code e.symm
  · cases e
theorem Sm.fn {f : Addr} {F : NdefX.NF} (s : Sm H H') (h : H f = some (NdefX.FnO f F)) : H' f = some (NdefX.FnO f F) := (s f _ h).elim id fun z => absurd z.1 fn_nk
theorem Sm.code {a : Addr} {q : Str} (s : Sm H H') (h : H a = some (LamX.CodeO a q)) : H' a = some (LamX.CodeO a q) := (s a _ h).elim id fun z => absurd z.1 code_nk
end
def spG (K : PySem.W.Frag) (HfE : Hp) (f : Addr) (F : NdefX.NF) (n : Nat) (M : List O → Res O) : Sp := fun vs H Q E => ∃ Hf os ws, vs = ws ++ [.ref f] ∧ Same HfE Hf ∧ Same Hf H ∧ Rows (tK K) Hf H ∧ RepVs K Hf H os ws ∧ os.length = n ∧ H f = some (NdefX.FnO f F) ∧ H F.c = some (LamX.CodeO F.c F.qual) ∧ match M os with
  | .ok o => ∀ v Hf' H' L, Ext Hf H Hf' H' → RepO K Hf' H' o v L → Nw H Hf' H' L → Q v H'
  | .exc e => ∀ cls d Hf' H', Ext Hf H Hf' H' → EcR K e cls d Hf' → E cls d H'
  | .bad => False
section
variable {P : Program} {w : World} {K : PySem.W.Frag} {mg : Str → Option Value} {base : Heap} {x qual : Str} {params : Arguments} {body : List Stmt} {scope : Scope} {fA : Addr} {fd : FuncData} {N ps : List Str} {k n : Nat}
structure DefG (P : Program) (w : World) (K : PySem.W.Frag) (mg : Str → Option Value) (x : Str) (k jc n nc : Nat) (M : (List O → Res O) → List O → Res O) : Prop where
  ex : ∃ f fd ps, mg x = some (.ref f) ∧ PySem.W.keepIn K (.ref f) = true ∧ Binds K fd ps [] ∧ ps.length = n + 1 ∧
    ∀ (base : Heap) (HfE : Hp) (g : Addr) (F0 : NdefX.NF) (G : List O → Res O), CloF P w K mg base HfE jc g F0 nc G → FnOk P w K mg base (L2.CX P w) k f fd ps (spG K HfE g F0 n (M G))
end
end DL
namespace DL
open PySem L2 NdefX LamX
structure NdH (H : Hp) (P : Addr) (F : NF) (f : Addr) (H1 : Hp) : Prop where
  fr : H f = none
  fn : H1 f = some (FnO f F)
  co : H1 F.c = some (CodeO F.c F.qual)
  tb : TabN H1 P nestAt
  kp : ∀ b o, b ≠ P → H b = some o → H1 b = some o
  el : ∀ b, b ≠ P → b ≠ f → b ≠ F.c → H1 b = H b
  cf : H F.c = none ∨ H F.c = some (CodeO F.c F.qual)
section
variable {X : Cx} {pins : List (Addr × Obj)} {σ : L2.St} {H : Hp} {s : Shared}
end
section
variable {K : PySem.W.Frag} {H H1 Hf : Hp} {P f : Addr} {F : NF}
theorem NdH.ext (h : NdH H P F f H1) (hP : TabN H P nestAt) {T0 : List Addr} (r : Rows T0 Hf H) (sub : Same Hf H) : Ext Hf H Hf H1 := by
  obtain ⟨ps, p1, _, _⟩ := hP
  obtain ⟨ps1, t1, t2, t3⟩ := h.tb
  have fP : Hf P = none := by
    cases q : Hf P with
    | none => rfl
    | some o =>
      have z := sub P o q
      rw [p1] at z
      cases z
      exact absurd (.inr ⟨ps, rfl⟩) (r.nk P _ q)
  refine ⟨fun b o e => ?_, Same.refl _, fun b o e => ?_, fun _ _ z => z, fun {T} rt => ?_⟩
  · by_cases hb : b = P
    · subst hb
      rw [p1] at e
      cases e
      exact .inr ⟨.inr ⟨ps, rfl⟩, _, t1, .inr ⟨ps1, rfl⟩⟩
    · exact .inl (h.kp b o hb e)
  · by_cases hb : b = P
    · subst hb; rw [fP] at e; cases e
    · exact h.kp b o hb (sub b o e)
  · refine ⟨fun Q hQ => ?_, rt.nk, fun a C dx k rv fv e => ?_⟩
    · by_cases hb : Q = P
      · subst hb; exact h.tb
      · obtain ⟨us, a1, a2, a3⟩ := rt.tabs Q hQ
        refine ⟨us, h.kp _ _ hb a1, a2, fun p cv hc => ?_⟩
        obtain ⟨c0, e1, e2⟩ := a3 p cv hc
        exact ⟨c0, e1, h.kp _ _ (fun z => by rw [z, p1] at e2; cases e2) e2⟩
    · obtain ⟨rule, first, m, vs, h1, h2, h3, h4, h5⟩ := rt.at_ a C dx k rv fv e
      exact ⟨rule, first, m, vs, h1, h2, h.kp _ _ (fun z => by rw [z, p1] at h3; cases h3) h3, h4, h5⟩
end
end DL
namespace DL
open PySem L2 NdefX LamX
section
variable {M : Model} {A : Around} {E : Value → Shared → Prop} {s : Shared}
end
structure NScC (N ps fr : List Str) (sc : Scope) : Prop where
  kind : sc.kind = .function
  co : sc.isCoroutine = false
  gen : sc.isGenerator = false
  nd : N.Nodup
  pre : N.take (ps.length + fr.length) = ps ++ fr
  par : ∀ x ∈ ps, sc.names.lookup x = some .local
  cel : ∀ y ∈ sc.names, y.2 = .cell → sc.names.lookup y.1 = some .cell
  free : ∀ y ∈ sc.names, y.2 = .free → y.1 ∈ fr
  frk : ∀ x ∈ fr, sc.names.lookup x = some .free
section
variable {CX : CXT} {P : Program} {w : World} {K : PySem.W.Frag} {mg : Str → Option Value} {base : Heap} {N ps fr : List Str} {F : NF} {f : Addr} {A : Around} {outer : List PySem.Env} {s : Shared} {H : Hp} {E : XK} {us : List Value} {vs : List V} {ws : List (Option V)}
end
end DL
namespace DL
open PySem L2 NdefX LamX
section
variable {P : Program} {w : World} {K : PySem.W.Frag} {mg : Str → Option Value} {base : Heap} {N ps fr : List Str} {F : NF} {f : Addr} {k n : Nat} {HfE : Hp}
end
section
variable {c : Cn} {X : Cx} {e : Expr} {es : List Expr} {pos : Pos} {K : PySem.W.Frag} {H0 H H' Hf Hf' : Hp}
end
end DL
namespace DL
open PySem L2
def keyS (e : DictEntry) : Bool := match e.key with
  | .str _ _ => true
  | _ => false
def nsNone (K : PySem.W.Frag) (a : Addr) (x : Str) : Bool := match K.lookup a with
  | some ⟨_, _, .dict es _, _⟩ => es.toList.all keyS && (es.toList.find? (·.key.isStr x)).isNone
  | _ => false
def modB (K : PySem.W.Frag) : Bool := match PySem.W.nsIn K mainGlobals "__builtins__" with
  | some (some (.ref bm)) => (match K.lookup bm with
    | some ⟨.type "module", some d, _, _⟩ => d == builtinsNs
    | _ => false)
  | _ => false
def seerB (K : PySem.W.Frag) : Bool := nsNone K cStatics "sys.audit-hooks" && (nsNone K cStatics "sys.dict" && (nsNone K sysModules "_pylong" && modB K))
structure Wd (X : Cx) : Prop where
  st : ∃ env l, X.stack = env :: l ∧ env.scope.isGenerator = false ∧ env.scope.isCoroutine = false ∧ env.builtins = builtinsNs ∧ env.globals = mainGlobals
  tree : X.prog.given.tree = none
  seer : seerB X.K = true
section
variable {c : Cn} {X : Cx} {a b e : Expr} {es : List Expr} {fa fb : FE} {pos : Pos} {fs : Env → Res (List O)} {K : PySem.W.Frag} {k : Nat}
theorem Wd.blk {scope : Scope} {s : Shared} {H : Hp} {C : Addr} {cl : List (Str × Addr)} {fp : List Addr} (W : Wd X) : Wd (blkE X scope s H C cl fp) := ⟨W.st, W.tree, W.seer⟩
end
theorem Wd.fn {CX : CXT} {P : Program} {w : World} {K : PySem.W.Frag} {mg : Str → Option Value} {base : Heap} {N : List Str} {qual : Str} {scope : Scope} {f : Addr} {cd : Value} {A : Around} {outer : List PySem.Env} {s : Shared} {H : Hp} {E : XK}
    (hs : seerB K = true) (ht : P.given.tree = none) (h1 : scope.isGenerator = false) (h2 : scope.isCoroutine = false) : Wd (cxOf CX P w K mg base N qual scope f cd A outer s H E) := ⟨⟨_, _, rfl, h1, h2, rfl, rfl⟩, ht, hs⟩
theorem Wd.nox {X : Cx} (W : Wd X) : Wd X.nox := ⟨W.st, W.tree, W.seer⟩
end DL
namespace DL
open PySem L2 NdefX LamX
section
variable {P : Program} {w : World} {K : PySem.W.Frag} {mg : Str → Option Value} {base : Heap} {x qual : Str} {params : Arguments} {body : List Stmt} {scope : Scope} {fd : FuncData} {N ps : List Str} {k n : Nat}
end
end DL
namespace DL
open PySem L2 NdefX LamX
section
variable {c : Cn} {X : Cx} {K : PySem.W.Frag} {e : Expr} {f : FE}
end
end DL
namespace DL
open PySem L2
end DL
namespace DL
open PySem L2
end DL
namespace DL
open PySem L2
section
variable {X : Cx} {pins : List (Addr × Obj)} {σ : St} {H : Hp} {s : Shared} {d : Addr} {o : Obj}
theorem Inv_frzTv {kvs : List (List Key × V)} (I : Inv X pins σ H s) (h : H d = some (.frz o (.dT kvs))) :
    (d == sysModules) = false ∧ s.heap.get? d = some o ∧ o.ExactDict ∧ ∃ (es : Array DictEntry) (ep : Nat), o.data = .dict es ep ∧ es.size = kvs.length ∧
      ∀ (i : Nat) (k : List Key) (v : V), kvs[i]? = some (k, v) → ∃ (en : DictEntry) (q : Addr), es[i]? = some en ∧ en.key = .ref q ∧ H q = some (.tup (k.map kV)) ∧ RelV v en.val := by
  obtain ⟨hd, z, hs, xs, pr, o', es, ep, ho, hx, hdt, he, _⟩ := I.hok d _ h
  rw [hd] at ho
  cases ho
  refine ⟨hs, hd, hx, es, ep, hdt, ?_, fun i k v e => ?_⟩
  · have l1 : es.size = xs.length := size_of_entries he
    have l2 : kvs.length = xs.length := Paired.length pr
    omega
  · obtain ⟨b, hb, e1, e2, e3⟩ := paired_get pr e
    have q := entry_at he i
    rw [hb] at q
    exact ⟨_, b.2.1, q, rfl, e2, e3⟩
end
def ItiT (d : Addr) (o : Obj) (kvs : List (List Key × V)) : It :=
  ⟨fun i H => H d = some (.frz o (.dT kvs)) ∧ i < kvs.length, fun i H x H' => ∃ T k v q, kvs[i]? = some (k, v) ∧ H q = some (.tup (k.map kV)) ∧ x = .ref T ∧ H T = none ∧ H' = upd H T (.tup [.ref q, v]), fun i H => H d = some (.frz o (.dT kvs)) ∧ kvs.length ≤ i⟩
section
variable {P : Program} {w : World} {K : PySem.W.Frag} {d : Addr} {o : Obj} {es : Array DictEntry} {ep : Nat}
theorem turn_itemsT {kvs : List (List Key × V)} {elts : List Expr} {kk : Nat} {tpos : Pos} (it : Addr) (hod : o.data = .dict es ep) :
    Turn P w K (.Tuple elts kk tpos) (ItiT d o kvs) [it] it (fun i h => ∃ ok ov, IsItemIter h it d i kvs.length ep ok ov) where
  mem := by simp
  obj := fun i h st b hb => by
    have e : b = it := by simpa using hb
    subst e
    obtain ⟨ok, ov, e⟩ := st
    exact ⟨_, e, fun v z => nomatch z⟩
  keep := fun i h h' st k => let ⟨ok, ov, e⟩ := st; ⟨ok, ov, k it (by simp) _ e⟩
  item := by
    intro X hP hw hK hc i pins s σ H E I hf st hg
    subst hP hw hK
    obtain ⟨hd, hi⟩ := hg
    obtain ⟨hs, hgd, hx, es', ep', hdt, hsz, ent⟩ := Inv_frzTv I hd
    obtain ⟨rfl, rfl⟩ := dict_ep hod hdt
    obtain ⟨⟨k, v⟩, hkv⟩ : ∃ p, kvs[i]? = some p := ⟨kvs[i], List.getElem?_eq_getElem hi⟩
    obtain ⟨en, q, hen, hkey, hq, hv⟩ := ent i k v hkv
    obtain ⟨ok, ov, he⟩ := st
    rw [← hsz] at he
    have hlt : it < s.heap.objs.size := Heap.lt_size he
    have hi2 : i < es'.size := by omega
    have hen2 : es'[i] = en := by
      rw [Array.getElem?_eq_getElem hi2] at hen
      exact Option.some.inj hen
    refine DT.nextI he ⟨o, hgd, hx, hod⟩ hi2 fun h' ho hT hz hk => ?_
    rw [hen2] at ho hT
    refine ⟨_, rfl, wpAny_letOwnedTupleGo_items (s := { s with heap := h' }) ho fun h'' he' sb => ?_⟩
    have hT2 : h''.get? s.heap.objs.size = some { cls := .type "tuple", data := .seq #[en.key, en.val] } := (sb.2 _ (Nat.ne_of_gt hlt)).trans hT
    have new : ObjOk X.prog X.w (upd H s.heap.objs.size (.tup [.ref q, v])) h'' s.heap.objs.size (.tup [.ref q, v]) :=
      ⟨by show 2 ≤ sizeLine; decide, [en.key, en.val], .cons (show RelV (.ref q) en.key from hkey) (.cons hv .nil), ⟨_, hT2, rfl, _, rfl⟩⟩
    have I1 : Inv X pins σ (upd H s.heap.objs.size (.tup [.ref q, v])) { s with heap := h'' } :=
      I.turnedNew (t' := s.toks) (ch := [it]) (fun b ob hb e => (sb.2 b (by simpa using hb)).trans (hk b ob (by simpa using hb) e)) hf (Nat.le_refl _) new
    refine ⟨.ref s.heap.objs.size, _, I1, rfl, ⟨_, k, v, q, hkv, hq, rfl, I.hok.fresh (Nat.le_refl _), rfl⟩, ⟨en.key, en.val, ?_⟩, fun b hb => ?_⟩
    · rw [← hsz]; exact he'
    · have e : b = it := by simpa using hb
      rw [e, upd_ne (Nat.ne_of_lt hlt)]
      exact (hf it (by simp)).1
  done := by
    intro X hP hw hK hc i pins s σ H E I hf st hg
    subst hP hw hK
    obtain ⟨hd, hi⟩ := hg
    obtain ⟨f0, f1, f2, f3, f4, f5⟩ := hf it (by simp)
    obtain ⟨hs, hgd, hx, es', ep', hdt, hsz, ent⟩ := Inv_frzTv I hd
    obtain ⟨rfl, rfl⟩ := dict_ep hod hdt
    obtain ⟨ok, ov, he⟩ := st
    rw [← hsz] at he
    exact DT.endI (I.ok.hd hc) he ⟨o, hgd, hx, hod⟩ (by omega) fun h' eb => ⟨rfl, I.turned (t' := s.toks) (fun b ob hb e => eb b ob hb e) f0 f1 f3 f4 f5⟩
  self := fun A i s Q E st h => let ⟨_, _, e⟩ := st; PySem.W.kcp_self e h
end
def iItemsT (td : TE) : TI := fun σ H R => td σ H fun x H1 => ∃ d o kvs, x = .ref d ∧ H1 d = some (.frz o (.dT kvs)) ∧ R (ItiT d o kvs) H1
section
variable {X : Cx} {tg e : Expr} {td : TE} {apos cpos : Pos}
theorem pi_itemsT {elts : List Expr} {kk : Nat} {tpos : Pos} (he : PE X e td) (hbase : attributeBase e "items" X.env (eval e X.env) = eval e X.env := by rfl) (hline : (apos.endLine == cpos.line) = true := by rfl) :
    PI X (.Tuple elts kk tpos) (.Call (.Attribute e "items" apos) [] [] cpos) (iItemsT td) := by
  refine ⟨fun pins s σ H R I h => ?_⟩
  refine wpAny_Call_method (T := "dict") (id := "dict.items") hbase rfl hline F.plainAttrs_dict F.slot_dict_items F.type_dict_items (thn (he.run pins s σ H _ I h) fun u s1 ⟨x, H1, I1, rx, d, o, kvs, ex, hd, q⟩ => ?_)
  subst ex
  obtain rfl : u = Value.ref d := rx
  obtain ⟨hs, hgd, hx, es, ep, hdt, hsz, ent⟩ := Inv_frzTv I1 hd
  have hraw : DT.Raw s1.heap d es ep := ⟨o, hgd, hx, hdt⟩
  refine ⟨hraw.typeIs, fun a e => by cases e; exact ⟨o, hgd, hx.2.1⟩, ?_⟩
  have I2 : Inv X pins σ H1 { s1 with heap := s1.heap.push { cls := .type "dict_items", data := .fields #[.ref d] } } := I1.kept (t' := s1.toks) fun b ob q => Heap.get?_push_of_some _ q
  have fin : wpAny (model X.prog X.w) X.A (pyIter (.ref s1.heap.objs.size)) (PIE X pins σ (.Tuple elts kk tpos) R) X.xe { s1 with heap := s1.heap.push { cls := .type "dict_items", data := .fields #[.ref d] } } := by
    refine DT.iterI (d := d) ⟨_, Heap.get?_push_size _ rfl, rfl, rfl⟩ (hraw.push _) (pi_one (tk := s1.toks) I2 _ (turn_itemsT _ hdt) ⟨.none, .none, ?_⟩ q)
    rw [← hsz]
    exact Heap.get?_push_size _ rfl
  show wpAny _ _ (callWith cpos (.builtin "dict.items") [.ref d] [] []) _ X.xe s1
  exact method_meetsIn F.slot_dict_items F.entry_dict_items rfl (PySem.evalArgs_none ⟨rfl, hraw.typeIs, F.args_dict_items_1 _, _, DT.meetsItems (es := es) (ep := ep) hs, ⟨hraw, fin⟩⟩)
end
end DL
namespace DL
open PySem L2
variable {c : Cn} {X : Cx} {a b e : Expr} {es : List Expr} {f g fa fb : FE} {pos : Pos} {fs : Env → Res (List O)} {K : PySem.W.Frag} {H0 H H' Hf Hf' : Hp} {F G : FS} {st : Stmt} {sts : List Stmt} {ft : Env → Res Bool}
def isDT (kvs : List (List Key × V)) (o : HO) : Prop := o = .dT kvs ∨ ∃ ob, o = .frz ob (.dT kvs)
def Tw (H H' : Hp) : Prop := ∀ a o, H a = some o → ∃ o', H' a = some o' ∧ (o' = o ∨ ∃ kvs, isDT kvs o ∧ isDT kvs o')
theorem Tw.at {p : Addr} {o : HO} (t : Tw H H') (h : H p = some o) (n : ∀ kvs, ¬ isDT kvs o) : H' p = some o := by
  obtain ⟨o', h1, h2 | ⟨kvs, h3, _⟩⟩ := t p o h
  · rw [h1, h2]
  · exact absurd h3 (n kvs)
theorem Tw.rd {p : Addr} {kvs : List (List Key × V)} (t : Tw H H') (h : Rd H p (.dT kvs)) : Rd H' p (.dT kvs) := by
  have go : ∀ o, H p = some o → isDT kvs o → Rd H' p (.dT kvs) := fun o h i => by
    obtain ⟨o', h1, h2 | ⟨kvs', h3, h4⟩⟩ := t p o h
    · subst h2
      rcases i with i | ⟨ob, i⟩
      · exact .inl (by rw [h1, i])
      · exact .inr ⟨ob, by rw [h1, i]⟩
    · have e : kvs' = kvs := by
        rcases i with i | ⟨ob, i⟩ <;> rcases h3 with j | ⟨ob', j⟩ <;> rw [i] at j <;> cases j <;> rfl
      subst e
      rcases h4 with i | ⟨ob, i⟩
      · exact .inl (by rw [h1, i])
      · exact .inr ⟨ob, by rw [h1, i]⟩
  rcases h with h | ⟨ob, h⟩
  · exact go _ h (.inl rfl)
  · exact go _ h (.inr ⟨ob, rfl⟩)
theorem nDT {o : HO} (h : ∀ kvs, o ≠ .dT kvs) (h2 : ∀ ob u, o ≠ .frz ob u) : ∀ kvs, ¬ isDT kvs o := fun kvs z => by
  rcases z with z | ⟨ob, z⟩
  · exact h _ z
  · exact h2 _ _ z
theorem Tw.lst {p : Addr} {xs : List V} (t : Tw H H') (h : H p = some (.lst xs)) : H' p = some (.lst xs) := t.at h (nDT (fun _ z => nomatch z) fun _ _ z => nomatch z)
theorem Tw.tup {p : Addr} {xs : List V} (t : Tw H H') (h : H p = some (.tup xs)) : H' p = some (.tup xs) := t.at h (nDT (fun _ z => nomatch z) fun _ _ z => nomatch z)
theorem Tw.ins {p C dx : Addr} {fs : List (Str × V)} (t : Tw H H') (h : H p = some (.ins C dx fs)) : H' p = some (.ins C dx fs) := t.at h (nDT (fun _ z => nomatch z) fun _ _ z => nomatch z)
theorem Tw.own {p x : Addr} (t : Tw H H') (h : H p = some (.own x)) : H' p = some (.own x) := t.at h (nDT (fun _ z => nomatch z) fun _ _ z => nomatch z)
theorem Tw.xd {p : Addr} {fs : List (Str × V)} (t : Tw H H') (h : H p = some (.xd fs)) : H' p = some (.xd fs) := t.at h (nDT (fun _ z => nomatch z) fun _ _ z => nomatch z)
theorem Tw.dK {p : Addr} {xs : List (Key × V)} (t : Tw H H') (h : H p = some (.dK xs)) : H' p = some (.dK xs) := t.at h (nDT (fun _ z => nomatch z) fun _ _ z => nomatch z)
theorem Tw.ext {p : Addr} {φ : Heap → Prop} (t : Tw H H') (h : H p = some (.ext φ)) : H' p = some (.ext φ) := t.at h (nDT (fun _ z => nomatch z) fun _ _ z => nomatch z)
theorem Tw.tbl {p : Addr} {ps : Array Value} (t : Tw H H') (h : H p = some (.tbl ps)) : H' p = some (.tbl ps) := t.at h (nDT (fun _ z => nomatch z) fun _ _ z => nomatch z)
theorem Tw.fl {p : Addr} {ob : Obj} {xs : List V} (t : Tw H H') (h : H p = some (.frz ob (.lst xs))) : H' p = some (.frz ob (.lst xs)) := t.at h fun kvs z => by
  rcases z with z | ⟨ob, z⟩ <;> cases z
theorem Tw.ne (t : Tw H H') {p : Addr} (h : H p ≠ none) : H' p ≠ none := by
  cases q : H p with
  | none => exact absurd q h
  | some o =>
    obtain ⟨o', h1, _⟩ := t p o q
    rw [h1]; simp
theorem EcR.tw {e : Ec} {cls : Value} {d : Option Addr} (t : Tw H H') (h : EcR K e cls d H) : EcR K e cls d H' := by
  obtain ⟨C, h1, h2, h3⟩ := h
  refine ⟨C, h1, h2, ?_⟩
  cases d with
  | none => exact h3
  | some a => exact ⟨h3.1, t.xd h3.2⟩
theorem PolyAt.tw (t : Tw H H') {p : List Int} {v : V} (h : PolyAt H p v) : PolyAt H' p v := let ⟨a, e1, h1⟩ := h; ⟨a, e1, t.lst h1⟩
theorem FrAt.tw (t : Tw H H') {p : Int × Int} {v : V} (h : FrAt H p v) : FrAt H' p v := let ⟨a, e1, h1⟩ := h; ⟨a, e1, t.tup h1⟩
theorem PolysAt.tw (t : Tw H H') {p : List (List Int)} {v : V} (h : PolysAt H p v) : PolysAt H' p v := let ⟨a, vs, e1, h1, h2⟩ := h; ⟨a, vs, e1, t.lst h1, pairedM h2 fun _ _ z => z.tw t⟩
theorem FrsAt.tw (t : Tw H H') {p : List (Int × Int)} {v : V} (h : FrsAt H p v) : FrsAt H' p v := let ⟨a, vs, e1, h1, h2⟩ := h; ⟨a, vs, e1, t.lst h1, pairedM h2 fun _ _ z => z.tw t⟩
theorem seqL_tw (t : Tw H H') {p : Addr} {xs : List V} (h : SqL K H p xs) : SqL K H' p xs := by
  rcases h with (h | ⟨o, h⟩) | h
  · exact .inl (.inl (t.lst h))
  · exact .inl (.inr ⟨o, t.fl h⟩)
  · exact .inr h
mutual
theorem Rep.tw (e : Tw H H') : ∀ (d : D) (v : V), Rep K H d v → Rep K H' d v
  | .non, _, h => h
  | .bl _, _, h => h
  | .int _, _, h => h
  | .str _, _, h => h
  | .ex _, _, h => by
    obtain ⟨a, e1, cls, d, h1, h2⟩ := h
    refine ⟨a, e1, cls, d, e.at h1 (nDT (fun _ z => ?_) fun _ _ z => ?_), h2.tw e⟩
    · cases d <;> cases z
    · cases d <;> cases z
  | .scr ns, _, h => by
    obtain ⟨a, e1, h1⟩ := h
    exact ⟨a, e1, seqL_tw e h1⟩
  | .lst ds, _, h => by
    obtain ⟨a, vs, e1, h1, h2⟩ := h
    exact ⟨a, vs, e1, e.lst h1, Reps.tw e ds vs h2⟩
  | .tup ds, _, h => by
    obtain ⟨a, vs, e1, h1, h2⟩ := h
    exact ⟨a, vs, e1, e.tup h1, Reps.tw e ds vs h2⟩
  | .obj c ns ds, _, h => by
    obtain ⟨a, dx, vs, e1, h1, h3, h4, h2⟩ := h
    exact ⟨a, dx, vs, e1, e.ins h1, e.own h3, h4, Reps.tw e ds vs h2⟩
  | .row r f, _, h => by
    obtain ⟨a, e1, dx, r', f', k, h1, h2, h3, h4⟩ := h
    exact ⟨a, e1, dx, r', f', k, e.ins h1, e.own h2, h3.tw e, h4.tw e⟩
  | .dct ks ds, _, h => by
    obtain ⟨a, vs, e1, h1, h3, h2⟩ := h
    exact ⟨a, vs, e1, e.rd h1, h3, Reps.tw e ds vs h2⟩
  | .dck ks ds, _, h => by
    obtain ⟨a, vs, e1, h1, h3, h2⟩ := h
    exact ⟨a, vs, e1, e.dK h1, h3, Reps.tw e ds vs h2⟩
theorem Reps.tw (e : Tw H H') : ∀ (ds : List D) (vs : List V), Reps K H ds vs → Reps K H' ds vs
  | [], _, h => h
  | d :: ds, _, h => by
    obtain ⟨v, r, e1, h1, h2⟩ := h
    exact ⟨v, r, e1, Rep.tw e d v h1, Reps.tw e ds r h2⟩
end
mutual
theorem RepV.tw (f : Tw Hf Hf') (e : Tw H H') : ∀ (o : O) (v : V), RepV K Hf H o v → RepV K Hf' H' o v
  | .fz d, v, h => Rep.tw f d v h
  | .ls os, _, h => by
    obtain ⟨a, vs, e1, h1, h2⟩ := h
    exact ⟨a, vs, e1, e.lst h1, RepVs.tw f e os vs h2⟩
  | .tp os, _, h => by
    obtain ⟨a, vs, e1, h1, h2⟩ := h
    exact ⟨a, vs, e1, e.tup h1, RepVs.tw f e os vs h2⟩
  | .ob c ns os, _, h => by
    obtain ⟨a, dx, vs, e1, h1, h3, h4, h2, hn⟩ := h
    exact ⟨a, dx, vs, e1, e.ins h1, e.own h3, h4, RepVs.tw f e os vs h2, hn⟩
  | .dt ks ds, _, h => by
    obtain ⟨a, vs, e1, h1, h3, h2⟩ := h
    exact ⟨a, vs, e1, e.rd h1, h3, Reps.tw f ds vs h2⟩
  | .dk ks ds, _, h => by
    obtain ⟨a, vs, e1, h1, h3, h2⟩ := h
    exact ⟨a, vs, e1, e.dK h1, h3, Reps.tw f ds vs h2⟩
  | .gh o _ _, v, h => RepV.tw f e o v h
theorem RepVs.tw (f : Tw Hf Hf') (e : Tw H H') : ∀ (os : List O) (vs : List V), RepVs K Hf H os vs → RepVs K Hf' H' os vs
  | [], _, h => h
  | o :: os, _, h => by
    obtain ⟨v, r, e1, h1, h2⟩ := h
    exact ⟨v, r, e1, RepV.tw f e o v h1, RepVs.tw f e os r h2⟩
end
mutual
theorem RepO.tw (f : Tw Hf Hf') : ∀ (o : O) (v : V) (L : List Addr), (∀ a ∈ L, ∀ u, H a = some u → H' a = some u) → RepO K Hf H o v L → RepO K Hf' H' o v L
  | .fz d, _, _, _, h => ⟨Rep.tw f d _ h.1, h.2⟩
  | .ls os, _, L, e, h => by
    obtain ⟨a, vs, M, e1, h1, h2, e2⟩ := h
    subst e2
    exact ⟨a, vs, M, e1, e a (by simp) _ h1, RepOs.tw f os vs M (fun b hb => e b (by simp [hb])) h2, rfl⟩
  | .tp os, _, L, e, h => by
    obtain ⟨a, vs, M, e1, h1, h2, e2⟩ := h
    subst e2
    exact ⟨a, vs, M, e1, e a (by simp) _ h1, RepOs.tw f os vs M (fun b hb => e b (by simp [hb])) h2, rfl⟩
  | .ob c ns os, _, L, e, h => by
    obtain ⟨a, dx, vs, M, e1, h1, h3, h4, h2, hn, e2⟩ := h
    subst e2
    exact ⟨a, dx, vs, M, e1, e a (by simp) _ h1, e dx (by simp) _ h3, h4, RepOs.tw f os vs M (fun b hb => e b (by simp [hb])) h2, hn, rfl⟩
  | .dt ks ds, _, L, e, h => by
    obtain ⟨a, vs, e1, h1, h3, h2, e2⟩ := h
    subst e2
    exact ⟨a, vs, e1, e a (by simp) _ h1, h3, Reps.tw f ds vs h2, rfl⟩
  | .dk ks ds, _, L, e, h => by
    obtain ⟨a, vs, e1, h1, h3, h2, e2⟩ := h
    subst e2
    exact ⟨a, vs, e1, e a (by simp) _ h1, h3, Reps.tw f ds vs h2, rfl⟩
  | .gh o a m, _, L, e, h => by
    obtain ⟨L1, L2, h1, h2, e2⟩ := h
    subst e2
    exact ⟨L1, L2, RepO.tw f o _ L1 (fun b hb => e b (by simp [hb])) h1, RepO.tw f m _ L2 (fun b hb => e b (by simp [hb])) h2, rfl⟩
theorem RepOs.tw (f : Tw Hf Hf') : ∀ (os : List O) (vs : List V) (L : List Addr), (∀ a ∈ L, ∀ u, H a = some u → H' a = some u) → RepOs K Hf H os vs L → RepOs K Hf' H' os vs L
  | [], _, _, _, h => h
  | o :: os, _, L, e, h => by
    obtain ⟨v, r, L1, L2, e1, e2, h1, h2⟩ := h
    subst e2
    exact ⟨v, r, L1, L2, e1, rfl, RepO.tw f o v L1 (fun b hb => e b (by simp [hb])) h1, RepOs.tw f os r L2 (fun b hb => e b (by simp [hb])) h2⟩
end
theorem EnvR.tw {H0' : Hp} (f : Tw Hf Hf') (z : Tw H0 H0') (T : Tst H H') : ∀ {r : Env} {s : St} {L : List Addr}, (∀ a ∈ L, ∀ u, H a = some u → H' a = some u) → EnvR K Hf H0 H r s L → EnvR K Hf' H0' H' r s L
  | [], _, _, _, h => h
  | x :: r, _, L, e, h => by
    obtain ⟨y, t, L1, L2, e1, e2, h1, h2⟩ := h
    subst e2
    refine ⟨y, t, L1, L2, e1, rfl, ?_, EnvR.tw f z T (fun b hb => e b (by simp [hb])) h2⟩
    cases x with
    | un => exact h1
    | vl w o =>
      cases y with
      | none => cases w <;> exact h1
      | some v =>
        cases w with
        | true => exact RepO.tw f o v L1 (fun b hb => e b (by simp [hb])) h1
        | false => exact ⟨RepV.tw f z o v h1.1, h1.2⟩
    | me p o =>
      cases y with
      | none => exact h1
      | some v => exact ⟨h1.1, RepO.tw f o v L1 (fun b hb => e b (by simp [hb])) h1.2⟩
    | tq k =>
      cases y with
      | none => exact h1
      | some v => exact let ⟨h2, q, h3, h4⟩ := h1; ⟨h2, q, h3, T _ _ h4⟩
    | lt a o =>
      cases y with
      | none => exact h1
      | some v => exact ⟨h1.1, h1.2.1, RepV.tw f z o v h1.2.2⟩
    | fa a =>
      cases y with
      | none => exact h1
      | some v => exact h1
theorem isKn_nd {o : HO} (h : isKn o) : ∀ kvs, ¬ isDT kvs o := fun kvs z => by
  obtain ⟨φ, e⟩ := isKn_ext h
  rcases z with z | ⟨ob, z⟩ <;> rw [z] at e <;> cases φ <;> cases e
theorem Rows.tw (f : Tw Hf Hf') (f2 : Tw Hf' Hf) (e : Tw H H') {T : List Addr} (h : Rows T Hf H) : Rows T Hf' H' where
  tabs := fun p hp => let ⟨ps, a1, a2, a3⟩ := h.tabs p hp; ⟨ps, e.tbl a1, a2, fun pos cv hc => let ⟨c, e1, e2⟩ := a3 pos cv hc; ⟨c, e1, e.ext e2⟩⟩
  nk := fun p o ho hk => h.nk p o (f2.at ho (isKn_nd hk)) hk
  at_ := fun p C dx k r g hp => by
    obtain ⟨rule, first, m, vs, h1, h2, h3, h4, h5⟩ := h.at_ p C dx k r g (f2.ins hp)
    exact ⟨rule, first, m, vs, h1.tw f, h2.tw f, e.ext h3, pairedM h4 fun _ _ z => z.tw f, fun a' C' dx' r' f' h' => h5 a' C' dx' r' f' (f2.ins h')⟩
end DL
namespace DL
open PySem L2
variable {c : Cn} {X : Cx} {a b e : Expr} {es : List Expr} {f g fa fb : FE} {pos : Pos} {fs : Env → Res (List O)} {K : PySem.W.Frag} {H0 H H' Hf Hf' : Hp} {F G : FS} {st : Stmt} {sts : List Stmt} {ft : Env → Res Bool}
def pt (d : Addr) (w : HO) (H : Hp) : Hp := fun a => if a = d then (match H d with | none => none | some _ => some w) else H a
section
variable {d p : Addr} {w : HO} {kvs : List (List Key × V)}
theorem pt_ne (h : p ≠ d) : pt d w H p = H p := if_neg h
theorem pt_some {o : HO} (h : H d = some o) : pt d w H d = some w := by unfold pt; rw [if_pos rfl, h]
theorem pt_none (h : H d = none) : pt d w H d = none := by unfold pt; rw [if_pos rfl, h]
theorem pt_nn : pt d w H p = none ↔ H p = none := by
  by_cases h : p = d
  · subst h
    cases q : H p with
    | none => rw [pt_none q]
    | some o => rw [pt_some q]; simp
  · rw [pt_ne h]
theorem pt_upd {o : HO} (h : H d = some o) : pt d w H = upd H d w := funext fun p => by
  by_cases e : p = d
  · subst e; rw [pt_some h, upd_same]
  · rw [pt_ne e, upd_ne e]
theorem pt_pt {w' : HO} (h : H d = none ∨ H d = some w) : pt d w (pt d w' H) = H := funext fun p => by
  by_cases e : p = d
  · subst e
    rcases h with h | h
    · rw [pt_none (pt_none h), h]
    · rw [pt_some (pt_some h), h]
  · rw [pt_ne e, pt_ne e]
theorem pt_same (s : Same H H') : Same (pt d w H) (pt d w H') := fun p o h => by
  by_cases e : p = d
  · subst e
    cases q : H p with
    | none => rw [pt_none q] at h; cases h
    | some u => rw [pt_some q] at h; rw [pt_some (s p u q)]; exact h
  · rw [pt_ne e] at h ⊢; exact s p o h
theorem pt_sm (s : Sm H H') : Sm (pt d w H) (pt d w H') := fun p o h => by
  by_cases e : p = d
  · subst e
    cases q : H p with
    | none => rw [pt_none q] at h; cases h
    | some u =>
      rw [pt_some q] at h
      cases q2 : H' p with
      | none => exact absurd q2 (s.ne_none (by rw [q]; simp))
      | some u2 => rw [pt_some q2]; exact .inl h
  · rw [pt_ne e] at h ⊢; exact s p o h
theorem tw_pt (h : ∀ o, H d = some o → isDT kvs o) (hw : isDT kvs w) : Tw H (pt d w H) ∧ Tw (pt d w H) H := by
  constructor
  · intro p o ho
    by_cases e : p = d
    · subst e; exact ⟨w, pt_some ho, .inr ⟨kvs, h o ho, hw⟩⟩
    · exact ⟨o, by rw [pt_ne e]; exact ho, .inl rfl⟩
  · intro p o ho
    by_cases e : p = d
    · subst e
      cases q : H p with
      | none => rw [pt_none q] at ho; cases ho
      | some u =>
        rw [pt_some q] at ho
        cases ho
        exact ⟨u, rfl, .inr ⟨kvs, hw, h u q⟩⟩
    · rw [pt_ne e] at ho; exact ⟨o, ho, .inl rfl⟩
theorem isDT_sm {o : HO} (s : Sm H H') (h : H d = some o) (h2 : ∀ o, H' d = some o → isDT kvs o) : isDT kvs o := by
  rcases s d o h with h1 | ⟨_, o', h1, k1⟩
  · exact h2 o h1
  · exact absurd (h2 o' h1) (isKn_nd k1 kvs)
theorem SR.pt {Hf0 : Hp} {r : Env} {s : St} {L : List Addr} (sr : SR K Hf0 H0 r s Hf H L) (hd : ∀ o, H d = some o → isDT kvs o) (hw : isDT kvs w) (hL : d ∉ L) : SR K (pt d w Hf0) (pt d w H0) r s (pt d w Hf) (pt d w H) L := by
  have d0 : ∀ o, H0 d = some o → isDT kvs o := fun o h => isDT_sm sr.ext.same h hd
  have df : ∀ o, Hf d = some o → isDT kvs o := fun o h => hd o (sr.sub d o h)
  have df0 : ∀ o, Hf0 d = some o → isDT kvs o := fun o h => df o (sr.ext.fsame d o h)
  have ne : ∀ p ∈ L, p ≠ d := fun p hp e => by subst e; exact hL hp
  have rows2 := sr.rows.tw (tw_pt df hw).1 (tw_pt df hw).2 (tw_pt hd hw).1
  refine ⟨⟨pt_sm sr.ext.same, pt_same sr.ext.fsame, pt_same sr.ext.sub, fun p h1 h2 h3 => ?_, fun ht => (sr.ext.rows (ht.tw (tw_pt df0 hw).2 (tw_pt df0 hw).1 (tw_pt d0 hw).2)).tw (tw_pt df hw).1 (tw_pt df hw).2 (tw_pt hd hw).1⟩, sr.env.tw (tw_pt df hw).1 (tw_pt d0 hw).1 (fun p xs h => by
    by_cases e : p = d
    · subst e; rcases hd _ h with z | ⟨_, z⟩ <;> cases z
    · rw [pt_ne e]; exact h) (fun p hp u h => by rw [pt_ne (ne p hp)]; exact h), sr.nd, fun p hp => ?_, fun p hp => ?_, rows2⟩
  · exact sr.ext.keep p (fun z => h1 (pt_nn.mpr z)) (fun z => h2 (pt_nn.mpr z)) (pt_nn.mp h3)
  · exact ⟨pt_nn.mpr (sr.fr p hp).1, pt_nn.mpr (sr.fr p hp).2⟩
  · exact fun z => sr.ok p hp (pt_nn.mp z)
end
theorem SR.storeQ {r : Env} {s : St} {L : List Addr} {i : Nat} {qa : Addr} {k : List Key} (sr : c.SR K r s Hf H L) (hq : H qa = some (.tup (k.map kV))) (hi : i < r.length) : ∃ L1, c.SR K (r.set i (.tq k)) (s.set i (some (.ref qa))) Hf H L1 := by
  obtain ⟨L', h⟩ := sr.unset hi
  obtain ⟨y, A, M, B, h1, h2, h3, h4⟩ := h.env.at (i := i) (x := .un) (by simp [hi])
  have hM : M = [] := h3
  subst hM
  have env := h4 Hf H (.tq k) (some (.ref qa)) [] (Same.refl _) Tst.rf (fun _ _ _ z => z) ⟨rfl, qa, rfl, hq⟩
  rw [List.set_set, List.set_set, ← h2] at env
  exact ⟨L', h.ext, env, h.nd, h.fr, h.ok, h.rows⟩
def forD (m n : Nat) (F : FS) : List (List Key × D) → FS
  | [], r => .nx r
  | p :: ps, r => if m < r.length ∧ n < r.length then (match F ((r.set m (.tq p.1)).set n (.vl true (.fz p.2))) with
    | .nx r' => forD m n F ps r'
    | .ct r' => forD m n F ps r'
    | .bk r' => .nx r'
    | .ret o => .ret o
    | _ => .bad) else .bad
theorem reps_get : ∀ {ds : List D} {vs : List V} {i : Nat} {d : D}, Reps K H ds vs → ds[i]? = some d → ∃ v, vs[i]? = some v ∧ Rep K H d v
  | [], _, i, d, _, e => by simp at e
  | x :: ds, _, 0, d, h, e => by
    obtain ⟨v, r, e1, h1, h2⟩ := h
    subst e1
    simp at e
    subst e
    exact ⟨v, rfl, h1⟩
  | x :: ds, _, i + 1, d, h, e => by
    obtain ⟨v, r, e1, h1, h2⟩ := h
    subst e1
    simp at e
    exact reps_get (i := i) h2 (by simpa using e)
theorem so_forD {i m n : Nat} {tb : TS} {ps : List (List Key × D)} {dd : Addr} {ob : Obj} {ws : List V} {r : Env} {s : St} {L : List Addr} {D : Ends} (hb : SoS c K tb F) (sr : c.SR K r s Hf H L)
    (hi : s[i]? = some (some (.ref dd))) (hst : ∀ Hf2 H2, Same Hf Hf2 → Same Hf2 H2 → Sm c.H0 H2 → H2 dd = some (.frz ob (.dT ((ps.map (·.1)).zip ws))))
    (hr : Reps K Hf (ps.map (·.2)) ws) (q : PostS c K Hf D (forD m n F ps r)) :
    tFor (iItemsT (tVar i)) (gTup K 2 (gCons (gName m) (gCons (gName n) gNil))) tb D s H := by
  have hl : ((ps.map (·.1)).zip ws).length = ps.length := by
    have := Reps.length hr
    simp only [List.length_map] at this
    rw [List.length_zip, List.length_map, this, Nat.min_self]
  refine ⟨.ref dd, hi, dd, ob, _, rfl, hst Hf H (Same.refl _) sr.sub sr.same0, ?_⟩
  refine ⟨fun j w s' H' => w = ps.length - j ∧ j ≤ ps.length ∧ ∃ r' Hf' L', c.SR K r' s' Hf' H' L' ∧ Same Hf Hf' ∧ PostS c K Hf' D (forD m n F (ps.drop j) r'), ⟨ps.length, by simp, Nat.zero_le _, r, Hf, L, sr, Same.refl _, by simpa using q⟩, ?_⟩
  rintro j w s1 H1 ⟨rfl, hle, r1, Hf1, L1, sr1, f1, q1⟩
  have hd := hst Hf1 H1 f1 sr1.sub sr1.same0
  by_cases hlt : j < ps.length
  · rw [List.drop_eq_getElem_cons hlt] at q1
    refine .inr ⟨⟨hd, by rw [hl]; exact hlt⟩, fun s' H' => ∃ r' Hf' L', c.SR K r' s' Hf' H' L' ∧ Same Hf Hf' ∧ PostS c K Hf' D (forD m n F (ps.drop (j + 1)) r'), fun s' H' ⟨r', Hf', L', h⟩ => ⟨ps.length - (j + 1), by omega, rfl, hlt, r', Hf', L', h⟩, fun x H3 hy => ?_⟩
    obtain ⟨T, k, v, qa, hkv, hq, ex, hT, e3⟩ := hy
    subst ex e3
    have hlw : j < ws.length := by
      have := Reps.length hr
      simp only [List.length_map] at this
      omega
    have hkv2 : k = ps[j].1 ∧ v = ws[j] := by
      rw [List.getElem?_eq_getElem (by rw [hl]; exact hlt)] at hkv
      have := Option.some.inj hkv
      simp only [List.getElem_zip, List.getElem_map] at this
      exact ⟨(congrArg Prod.fst this).symm, (congrArg Prod.snd this).symm⟩
    obtain ⟨rfl, rfl⟩ := hkv2
    have hdv : Rep K Hf1 ps[j].2 ws[j] := by
      have := reps_get (Reps.mono f1 _ _ hr) (i := j) (d := ps[j].2) (by simp [hlt])
      obtain ⟨v, h1, h2⟩ := this
      rw [List.getElem?_eq_getElem hlw] at h1
      cases h1; exact h2
    have hqT : qa ≠ T := fun e => by subst e; rw [hT] at hq; cases hq
    have sr3 := sr1.mono (Ext.new (o := .tup [.ref qa, ws[j]]) sr1.sub hT)
    have hq3 : upd H1 T (.tup [.ref qa, ws[j]]) qa = some (.tup (ps[j].1.map kV)) := by rw [upd_ne hqT]; exact hq
    unfold forD at q1
    by_cases hc : m < r1.length ∧ n < r1.length
    case neg => rw [if_neg hc] at q1; exact q1.elim
    rw [if_pos hc] at q1
    obtain ⟨L5, sr5⟩ := sr3.storeQ hq3 hc.1
    obtain ⟨L6, sr6⟩ := sr5.storeA (x := .nw (.fz ps[j].2)) (v := ws[j]) (i := n) (r1 := (r1.set m (.tq ps[j].1)).set n (.vl true (.fz ps[j].2))) hdv (by simp [gN, hc.2])
    refine ⟨T, _, rfl, .inl (.inl upd_same), rfl, .ref qa, _, rfl, ws[j], _, rfl, rfl, ?_⟩
    refine hb _ _ _ _ _ sr6 _ ?_
    cases eF : F ((r1.set m (.tq ps[j].1)).set n (.vl true (.fz ps[j].2))) with
    | nx r2 =>
      rw [eF] at q1
      exact fun s2 Hf2 H2 L2 f2 z => ⟨_, Hf2, L2, z, f1.trans f2, q1.mono f2⟩
    | ct r2 =>
      rw [eF] at q1
      exact fun s2 Hf2 H2 L2 f2 z => ⟨_, Hf2, L2, z, f1.trans f2, q1.mono f2⟩
    | bk r2 =>
      rw [eF] at q1
      exact q1
    | ret o =>
      rw [eF] at q1
      exact q1
    | exc e' r2 => rw [eF] at q1; exact q1.elim
    | bad => rw [eF] at q1; exact q1.elim
  · have e : j = ps.length := by omega
    subst e
    rw [List.drop_length] at q1
    exact .inl ⟨⟨hd, by rw [hl]; exact Nat.le_refl _⟩, q1 s1 Hf1 H1 L1 (Same.refl _) sr1⟩
theorem forD_exc {m n : Nat} : ∀ (ps : List (List Key × D)) (r : Env) (e : Ec) (r' : Env), forD m n F ps r ≠ .exc e r'
  | [], r, e, r' => fun z => by cases z
  | p :: ps, r, e, r' => by
    unfold forD
    split
    · split
      · exact forD_exc ps _ e r'
      · exact forD_exc ps _ e r'
      · exact fun z => by cases z
      · exact fun z => by cases z
      · exact fun z => by cases z
    · exact fun z => by cases z
def tAllS (X : Cx) (sts : List Stmt) : TS := fun D σ H => ∃ t, PSs X sts t ∧ t D σ H
theorem pss_all : PSs X sts (tAllS X sts) := by
  refine ⟨fun pins s σ H D I h => ?_⟩
  obtain ⟨t, p, h⟩ := h
  exact p.run pins s σ H D I h
theorem so_all (h : DSs c X sts F) : SoS c X.K (tAllS X sts) F := fun r s Hf H L sr D q => by
  obtain ⟨t, p, so⟩ := h.ex
  exact ⟨t, p, so r s Hf H L sr D q⟩
def dI (w : Bool) : O → Option (List (List Key × D))
  | .fz (.dct ks xs) => if ks.length = xs.length then some (ks.zip xs) else none
  | .dt ks xs => if w = false ∧ ks.length = xs.length then some (ks.zip xs) else none
  | _ => none
def sForDI (i m n : Nat) (F : FS) : FS := fun r => match r[i]? with
  | some (.vl w o) => (match dI w o with
    | some ps => forD m n F ps r
    | none => .bad)
  | _ => .bad
theorem zip_fst' {α β : Type} {ks : List α} {xs : List β} (h : ks.length = xs.length) : (ks.zip xs).map (·.1) = ks := by
  rw [List.map_fst_zip]; omega
theorem zip_snd' {α β : Type} {ks : List α} {xs : List β} (h : ks.length = xs.length) : (ks.zip xs).map (·.2) = xs := by
  rw [List.map_snd_zip]; omega
def tForDI (K : PySem.W.Frag) (i m n : Nat) (tb : TS) : TS := tFor (iItemsT (tVar i)) (gTup K 2 (gCons (gName m) (gCons (gName n) gNil))) tb
theorem so_forDI {i m n : Nat} {tb : TS} (hb : ∀ c2 : Cn, (c2.W = c.W ∨ c2.W = fun _ _ _ _ => False) → SoS c2 K tb F) : SoS c K (fun D σ H => tForDI K i m n tb D σ H ∨ tLock (tForDI K i m n tb) D σ H) (sForDI i m n F) := fun r s Hf H L sr D q => by
  unfold sForDI at q
  split at q
  case h_2 => exact q.elim
  rename_i w o hi
  split at q
  case h_2 => exact q.elim
  rename_i ps hps
  obtain ⟨v, hv, hrep⟩ := sr.slot hi
  obtain ⟨dd, ws, rfl, hw, hstate⟩ : ∃ dd ws, v = .ref dd ∧ Reps K Hf (ps.map (·.2)) ws ∧ (Rd c.H0 dd (.dT ((ps.map (·.1)).zip ws)) ∨ Rd Hf dd (.dT ((ps.map (·.1)).zip ws))) := by
    obtain ⟨y, _, M, _, hy, _, hs, _⟩ := sr.env.at hi
    rw [hv] at hy
    cases hy
    cases o with
    | fz d =>
      cases d with
      | dct ks xs =>
        simp only [dI] at hps
        split at hps
        · rename_i hl
          cases hps
          obtain ⟨a, vs, e1, h1, h2, h3⟩ := hrep
          exact ⟨a, vs, e1, by rw [zip_snd' hl]; exact h3, .inr (by rw [zip_fst' hl]; exact h1)⟩
        · cases hps
      | _ => cases hps
    | dt ks xs =>
      simp only [dI] at hps
      split at hps
      · rename_i hl
        cases hps
        cases hl.1
        obtain ⟨⟨a, vs, e1, h1, h2, h3⟩, _⟩ := hs
        exact ⟨a, vs, e1, by rw [zip_snd' hl.2]; exact h3, .inl (by rw [zip_fst' hl.2]; exact h1)⟩
      · cases hps
    | _ => cases hps
  generalize hkv : (ps.map (·.1)).zip ws = kvs at hstate
  have hdL : dd ∉ L := fun z => by
    rcases hstate with (h | ⟨_, h⟩) | (h | ⟨_, h⟩)
    · rw [(sr.fr dd z).2] at h; cases h
    · rw [(sr.fr dd z).2] at h; cases h
    · rw [(sr.fr dd z).1] at h; cases h
    · rw [(sr.fr dd z).1] at h; cases h
  have hcase : (∃ ob, (c.H0 dd = some (.frz ob (.dT kvs)) ∨ Hf dd = some (.frz ob (.dT kvs)))) ∨ ((c.H0 dd = some (.dT kvs) ∨ Hf dd = some (.dT kvs)) ∧ H dd = some (.dT kvs)) := by
    rcases hstate with (h | ⟨ob, h⟩) | (h | ⟨ob, h⟩)
    · exact .inr ⟨.inl h, sr.same0.dT h⟩
    · exact .inl ⟨ob, .inl h⟩
    · exact .inr ⟨.inr h, sr.sub _ _ h⟩
    · exact .inl ⟨ob, .inr h⟩
  rcases hcase with ⟨ob, hl⟩ | ⟨hu, hd⟩
  · left
    refine so_forD (hb c (.inl rfl)) sr hv (ob := ob) (fun Hf2 H2 s1 s2 s3 => ?_) hw q
    rw [hkv]
    rcases hl with h | h
    · exact s3.at h (Hk.ne rfl)
    · exact s2 _ _ (s1 _ _ h)
  · right
    refine ⟨dd, .dT kvs, hd, True.intro, fun ob => ?_⟩
    have hDH : ∀ o, H dd = some o → isDT kvs o := fun o h => by rw [hd] at h; cases h; exact .inl rfl
    have wDT : isDT kvs (.frz ob (.dT kvs)) := .inr ⟨ob, rfl⟩
    have uDT : isDT kvs (.dT kvs) := .inl rfl
    have sr' := SR.pt sr hDH wDT hdL
    have dF : ∀ o, Hf dd = some o → o = .dT kvs := fun o h => by
      have := sr.sub _ _ h
      rw [hd] at this; exact (Option.some.inj this).symm
    have d0 : ∀ o, c.H0 dd = some o → o = .dT kvs := fun o h => by
      rcases sr.same0 dd o h with h1 | ⟨_, o', h1, k1⟩
      · rw [hd] at h1; exact (Option.some.inj h1).symm
      · rw [hd] at h1
        obtain ⟨φ, e⟩ := isKn_ext k1
        rw [← Option.some.inj h1] at e; cases φ <;> cases e
    have dF0 : ∀ o, c.Hf0 dd = some o → o = .dT kvs := fun o h => dF o (sr.ext.fsame _ _ h)
    have orn : ∀ {Z : Hp}, (∀ o, Z dd = some o → o = .dT kvs) → Z dd = none ∨ Z dd = some (.dT kvs) := fun {Z} h => by
      cases z : Z dd with
      | none => exact .inl rfl
      | some o => exact .inr (by rw [h o z])
    have hst : ∀ Hf2 H2, Same (pt dd (.frz ob (.dT kvs)) Hf) Hf2 → Same Hf2 H2 → Sm (pt dd (.frz ob (.dT kvs)) c.H0) H2 → H2 dd = some (.frz ob (.dT kvs)) := fun Hf2 H2 s1 s2 s3 => by
      rcases hu with h | h
      · exact s3.at (pt_some h) (Hk.ne rfl)
      · exact s2 _ _ (s1 _ _ (pt_some h))
    have hnL : ∀ {Hf2 : Hp} {L2 : List Addr}, Same (pt dd (.frz ob (.dT kvs)) Hf) Hf2 → (∀ p ∈ L2, Hf2 p = none ∧ pt dd (.frz ob (.dT kvs)) c.H0 p = none) → dd ∉ L2 := fun {Hf2 L2} s1 s2 z => by
      rcases hu with h | h
      · have := (s2 dd z).2; rw [pt_some h] at this; cases this
      · have := (s2 dd z).1; rw [s1 _ _ (pt_some h)] at this; cases this
    have wf := tw_pt (w := .frz ob (.dT kvs)) (H := Hf) (d := dd) (kvs := kvs) (fun o h => .inl (dF o h)) wDT
    rw [← pt_upd hd]
    have key := so_forD (c := ⟨pt dd (.frz ob (.dT kvs)) c.Hf0, pt dd (.frz ob (.dT kvs)) c.H0, fun _ _ _ _ => False⟩) (K := K) (F := F) (i := i) (m := m) (n := n) (tb := tb) (ps := ps) (dd := dd) (ob := ob) (ws := ws) (r := r) (s := s) (L := L)
      (D := ⟨fun σ' H' => H' dd = some (.frz ob (.dT kvs)) ∧ D.nx σ' (upd H' dd (.dT kvs)), fun v H' => H' dd = some (.frz ob (.dT kvs)) ∧ D.rt v (upd H' dd (.dT kvs)), fun σ' H' => H' dd = some (.frz ob (.dT kvs)) ∧ D.bk σ' (upd H' dd (.dT kvs)), fun σ' H' => H' dd = some (.frz ob (.dT kvs)) ∧ D.ct σ' (upd H' dd (.dT kvs))⟩)
      (hb _ (.inr rfl)) sr' hv (by rw [hkv]; exact hst) (Reps.tw wf.1 _ _ hw)
    refine key ?_
    have go : ∀ {r2 : Env} {s2 : St} {Hf2 H2 : Hp} {L2 : List Addr}, Same (pt dd (.frz ob (.dT kvs)) Hf) Hf2 → SR K (pt dd (.frz ob (.dT kvs)) c.Hf0) (pt dd (.frz ob (.dT kvs)) c.H0) r2 s2 Hf2 H2 L2 →
        H2 dd = some (.frz ob (.dT kvs)) ∧ Same Hf (pt dd (.dT kvs) Hf2) ∧ c.SR K r2 s2 (pt dd (.dT kvs) Hf2) (upd H2 dd (.dT kvs)) L2 := fun {r2 s2 Hf2 H2 L2} f2 z => by
      have h1 := hst Hf2 H2 f2 z.sub z.ext.same
      have z2 := SR.pt (d := dd) (w := .dT kvs) (kvs := kvs) z (fun o h => by rw [h1] at h; cases h; exact wDT) uDT (hnL f2 z.fr)
      rw [pt_pt (orn dF0), pt_pt (orn d0), pt_upd h1] at z2
      have f3 := pt_same (d := dd) (w := .dT kvs) f2
      rw [pt_pt (orn dF)] at f3
      exact ⟨h1, f3, z2⟩
    cases eF : forD m n F ps r with
    | nx r2 =>
      rw [eF] at q
      intro s2 Hf2 H2 L2 f2 z
      obtain ⟨h1, f3, z2⟩ := go f2 z
      exact ⟨h1, q _ _ _ _ f3 z2⟩
    | bk r2 =>
      rw [eF] at q
      intro s2 Hf2 H2 L2 f2 z
      obtain ⟨h1, f3, z2⟩ := go f2 z
      exact ⟨h1, q _ _ _ _ f3 z2⟩
    | ct r2 =>
      rw [eF] at q
      intro s2 Hf2 H2 L2 f2 z
      obtain ⟨h1, f3, z2⟩ := go f2 z
      exact ⟨h1, q _ _ _ _ f3 z2⟩
    | ret o =>
      rw [eF] at q
      intro v2 Hf2 H2 L2 f2 x2 h2 n2
      have h1 := hst Hf2 H2 f2 x2.sub x2.same
      have hn := hnL (L2 := L2) f2 fun p hp => ⟨(n2.fr p hp).2.1, (n2.fr p hp).1⟩
      have wDF2 : ∀ o, Hf2 dd = some o → isDT kvs o := fun o h => by
        have := x2.sub _ _ h
        rw [h1] at this; rw [← Option.some.inj this]; exact wDT
      have w2 := tw_pt (w := .dT kvs) (H := Hf2) (d := dd) (kvs := kvs) wDF2 uDT
      have f3 := pt_same (d := dd) (w := .dT kvs) f2
      rw [pt_pt (orn dF)] at f3
      refine ⟨h1, ?_⟩
      rw [← pt_upd h1]
      refine q v2 (pt dd (.dT kvs) Hf2) _ L2 f3 ⟨?_, ?_, pt_same x2.sub, fun p a1 a2 => ?_, fun hr => ?_⟩ (RepO.tw w2.1 o v2 L2 (fun p hp u h => by rw [pt_ne (fun e => by subst e; exact hn hp)]; exact h) h2) ⟨n2.nd, fun p hp => ?_⟩
      · have := pt_sm (d := dd) (w := .dT kvs) x2.same
        rwa [pt_pt (orn d0)] at this
      · have := pt_same (d := dd) (w := .dT kvs) x2.fsame
        rwa [pt_pt (orn dF0)] at this
      · exact fun z => x2.keep p (fun y => a1 (pt_nn.mp y)) (fun y => a2 (pt_nn.mpr y)) (pt_nn.mpr z)
      · have r1 := hr.tw (tw_pt (fun o h => .inl (dF0 o h)) wDT).1 (tw_pt (fun o h => .inl (dF0 o h)) wDT).2 (tw_pt (fun o h => .inl (d0 o h)) wDT).1
        exact (x2.rows r1).tw w2.1 w2.2 (tw_pt (fun o h => by rw [h1] at h; cases h; exact wDT) uDT).1
      · obtain ⟨a1, a2, a3⟩ := n2.fr p hp
        exact ⟨pt_nn.mp a1, pt_nn.mpr a2, fun z => a3 (pt_nn.mp z)⟩
    | exc e' r2 => exact absurd eF (forD_exc ps r e' r2)
    | bad => rw [eF] at q; exact q.elim
theorem ds_forDI {k i m n kk : Nat} {xm xn : Str} {p1 p2 tpos apos cpos : Pos} (B : Bk c X k) (hN : X.N.Nodup) (hi : PE X e (tVar i)) (hm : X.N[m]? = some xm) (hn : X.N[n]? = some xn) (lm : Loc X.env.scope xm) (ln : Loc X.env.scope xn)
    (fm : X.fn xm = true ∨ X.env.scope.names.lookup xm = some .local) (fn' : X.fn xn = true ∨ X.env.scope.names.lookup xn = some .local) (hb : ∀ c2 : Cn, Bk c2 X k → DSs c2 X sts F)
    (hbase : attributeBase e "items" X.env (eval e X.env) = eval e X.env := by rfl) (hline : (apos.endLine == cpos.line) = true := by rfl)
    (h1 : (assignEach [.Name xm p1, .Name xn p2] X.env).length = 2 := by rfl) (h2 : (assignEach [.Name xm p1, .Name xn p2] X.env).findIdx? (·.1) = none := by rfl)
    (h3 : (assignEach [.Name xm p1, .Name xn p2] X.env).map (·.2) = assign (.Name xm p1) X.env :: (assignEach [.Name xn p2] X.env).map (·.2) := by rfl)
    (h4 : (assignEach [.Name xn p2] X.env).map (·.2) = assign (.Name xn p2) X.env :: (assignEach ([] : List Expr) X.env).map (·.2) := by rfl)
    (hs : ∀ x, foldedSetIterable (.Call (.Attribute e "items" apos) [] [] cpos) X.env x = pure x := by intro _; rfl) :
    DS c X (.For (.Tuple [.Name xm p1, .Name xn p2] kk tpos) (.Call (.Attribute e "items" apos) [] [] cpos) sts [] pos) (sForDI i m n F) := by
  have P0 : PS X (.For (.Tuple [.Name xm p1, .Name xn p2] kk tpos) (.Call (.Attribute e "items" apos) [] [] cpos) sts [] pos) (tForDI X.K i m n (tAllS X sts)) :=
    ps_for B.po B.calm (pi_itemsT hi hbase hline) (pg_tup B.calm (pgs_cons (pg_name hN hm lm fm) (pgs_cons (pg_name hN hn ln fn') pgs_nil h4) h3) h1 h2) pss_all hs
  have P1 := ps_lock P0
  refine ⟨_, ⟨fun pins s σ H D I h => ?_⟩, so_forDI (c := c) (K := X.K) (F := F) (i := i) (m := m) (n := n) (tb := tAllS X sts) fun c2 h => so_all (hb c2 ?_)⟩
  · rcases h with h | h
    · exact P0.run pins s σ H D I h
    · exact P1.run pins s σ H D I h
  · rcases h with h | h
    · exact ⟨B.hr, by rw [h]; exact B.tk, B.po, B.calm⟩
    · exact ⟨B.hr, by rw [h]; exact fun u s' ⟨a, B', sI, pins, σ, H, cls, d, e, I, nb, up, sky, na, os, ag, w⟩ => w.elim, B.po, B.calm⟩
end DL
namespace DL
open PySem L2
variable {c : Cn} {X : Cx} {a b e : Expr} {es : List Expr} {f g fa fb : FE} {pos : Pos} {fs : Env → Res (List O)} {K : PySem.W.Frag} {H0 H H' Hf Hf' : Hp} {F G : FS} {st : Stmt} {sts : List Stmt} {ft : Env → Res Bool}
def keyD : D → Option Key
  | .int i => some (.inl i)
  | .str t => some (.inr t)
  | _ => none
def keysD : List D → Option (List Key)
  | [] => some []
  | d :: ds => (keyD d).bind fun k => (keysD ds).map (k :: ·)
def keysO : List O → Option (List Key)
  | [] => some []
  | .fz d :: os => (keyD d).bind fun k => (keysO os).map (k :: ·)
  | _ :: _ => none
def keyO : O → Option (List Key)
  | .fz (.tup ds) => keysD ds
  | .tp os => keysO os
  | _ => none
theorem keyD_rep {d : D} {k : Key} {v : V} (h : keyD d = some k) (r : Rep K H d v) : v = kV k := by
  cases d with
  | int i => cases h; exact r
  | str t => cases h; exact r
  | _ => cases h
theorem keysD_rep : ∀ {ds : List D} {k : List Key} {vs : List V}, keysD ds = some k → Reps K H ds vs → vs = k.map kV
  | [], k, vs, h, r => by cases h; exact r
  | d :: ds, k, vs, h, r => by
    obtain ⟨v, w, e1, h1, h2⟩ := r
    subst e1
    cases e : keyD d with
    | none => simp [keysD, e] at h
    | some x =>
      cases e2 : keysD ds with
      | none => simp [keysD, e, e2] at h
      | some y =>
        simp [keysD, e, e2] at h
        subst h
        rw [keyD_rep e h1, keysD_rep e2 h2]; rfl
theorem keysO_rep : ∀ {os : List O} {k : List Key} {vs : List V}, keysO os = some k → RepVs K Hf H os vs → vs = k.map kV
  | [], k, vs, h, r => by cases h; exact r
  | o :: os, k, vs, h, r => by
    obtain ⟨v, w, e1, h1, h2⟩ := r
    subst e1
    cases o with
    | fz d =>
      cases e : keyD d with
      | none => simp [keysO, e] at h
      | some x =>
        cases e2 : keysO os with
        | none => simp [keysO, e, e2] at h
        | some y =>
          simp [keysO, e, e2] at h
          subst h
          rw [keyD_rep e h1, keysO_rep e2 h2]; rfl
    | _ => simp [keysO] at h
theorem keyO_rep {o : O} {k : List Key} {v : V} (s : Same Hf H) (h : keyO o = some k) (r : RepV K Hf H o v) : ∃ b, v = .ref b ∧ H b = some (.tup (k.map kV)) := by
  cases o with
  | fz d =>
    cases d with
    | tup ds =>
      obtain ⟨a, vs, e1, h1, h2⟩ := r
      exact ⟨a, e1, by rw [s _ _ h1, keysD_rep h h2]⟩
    | _ => cases h
  | tp os =>
    obtain ⟨a, vs, e1, h1, h2⟩ := r
    exact ⟨a, e1, by rw [h1, keysO_rep h h2]⟩
  | _ => cases h
def dctO : O → Option (List (List Key) × List D)
  | .fz (.dct ks ds) => some (ks, ds)
  | .dt ks ds => some (ks, ds)
  | _ => none
theorem dctO_rep {o : O} {ks : List (List Key)} {ds : List D} {v : V} (s : Same Hf H) (h : dctO o = some (ks, ds)) (r : RepV K Hf H o v) : ∃ a vs, v = .ref a ∧ Rd H a (.dT (ks.zip vs)) ∧ ks.length = ds.length ∧ Reps K Hf ds vs := by
  cases o with
  | fz d =>
    cases d with
    | dct ks ds =>
      cases h
      obtain ⟨a, vs, e1, h1, h2, h3⟩ := r
      exact ⟨a, vs, e1, h1.imp (fun z => s _ _ z) (fun ⟨ob, z⟩ => ⟨ob, s _ _ z⟩), h2, h3⟩
    | _ => cases h
  | dt ks ds =>
    cases h
    exact r
  | _ => cases h
def valP : List (List Key) → List D → List Key → Option D
  | k' :: ks, d :: ds, k => if k' = k then some d else valP ks ds k
  | _, _, _ => none
theorem valP_rep : ∀ {ks : List (List Key)} {ds : List D} {vs : List V} {k : List Key}, ks.length = ds.length → Reps K H ds vs → (valP ks ds k = none ∧ valV (ks.zip vs) k = none) ∨ ∃ d v, valP ks ds k = some d ∧ valV (ks.zip vs) k = some v ∧ Rep K H d v
  | [], _, _, k, _, _ => .inl ⟨by simp [valP], rfl⟩
  | k' :: ks, [], _, k, h, _ => by simp at h
  | k' :: ks, d :: ds, _, k, h, r => by
    obtain ⟨v, w, e1, h1, h2⟩ := r
    subst e1
    by_cases e : k' = k
    · exact .inr ⟨d, v, by simp [valP, e], valV_pos (p := (k', v)) e, h1⟩
    · have ih := valP_rep (k := k) (by simpa using h) h2
      rw [List.zip_cons_cons, valV_neg (p := (k', v)) e]
      simp only [valP, if_neg e]
      exact ih
def eDNew : FE := fun _ => .ok (.nw (.dt [] []))
theorem de_dnew : DE c X (.Dict [] [] pos) eDNew := ⟨tDNewT, pe_dnewT, fun r s Hf H L sr Q q p hp => q (.ref p) Hf _ [p] (Ext.new sr.sub hp) ⟨p, [], rfl, upd_same, rfl, rfl, rfl⟩
  ⟨by simp, fun x hx => by
    have e : x = p := by simpa using hx
    subst e
    exact ⟨hp, sub_none sr.sub hp, by rw [upd_same]; simp⟩⟩⟩
def eDGet2 (i : Nat) (g : FE) (n : Int) : FE := fun r => match r[i]? with
  | some (.vl _ o) => (match dctO o with
    | some p => (g r).bind fun y => (match keyO y.a with
      | some k => .ok (.nw (.fz ((valP p.1 p.2 k).getD (.int n))))
      | none => .bad)
    | none => .bad)
  | _ => .bad
theorem de_dget2 {j i : Nat} {n : Int} {o e2 : Expr} {apos cpos : Pos} (B : Bk c X j) (hv : PE X o (tVar i)) (hk : DE c X e g) (hd : PE X e2 (tC (.int n))) (m : M2 X o "get" apos e e2 cpos) : DE c X (.Call (.Attribute o "get" apos) [e, e2] [] cpos) (eDGet2 i g n) := by
  obtain ⟨t, p, s⟩ := hk.ex
  have hu : X.A.units + 1 < cLine := by have := B.hr.un; omega
  refine ⟨tDGet2 (tVar i) t (tC (.int n)), pe_dget2 hu hv p hd m, fun r s' Hf H L sr Q q => ?_⟩
  unfold eDGet2 at q
  split at q
  case h_2 => exact q.elim
  rename_i w o hi
  split at q
  case h_2 => exact q.elim
  rename_i pr ed
  obtain ⟨ks, ds⟩ := pr
  obtain ⟨v, h1, h2⟩ := sr.slot hi
  obtain ⟨da, vs, ev, hr, hl, hrep⟩ := dctO_rep sr.sub ed h2
  subst ev
  refine ⟨.ref da, h1, da, rfl, .inr ⟨_, hr⟩, ?_⟩
  refine s r s' Hf H L sr _ ?_
  cases eg : g r with
  | bad => rw [eg] at q; exact q.elim
  | exc e' => rw [eg] at q; exact q
  | ok y =>
    rw [eg] at q
    simp only [Res.bind] at q
    split at q
    case h_2 => exact q.elim
    rename_i k ek
    intro u Hf1 H1 L1 x1 a1 n1
    have sr1 := sr.mono x1
    have b2 := (a1.argR n1).a sr1.same0
    have x2 := x1.add n1 a1.nq
    obtain ⟨b, eu, hb⟩ := keyO_rep x2.sub ek b2
    subst eu
    have hr1 : Rd H1 da (.dT (ks.zip vs)) := hr.imp (fun z => x1.same.dT z) fun ⟨ob, z⟩ => ⟨ob, x1.same.at z (Hk.ne rfl)⟩
    refine ⟨valV (ks.zip vs) k, .inr ⟨_, k, b, hr1, rfl, hb, rfl⟩, ?_⟩
    rcases valP_rep (k := k) hl (Reps.mono x2.fsame _ _ hrep) with ⟨z1, z2⟩ | ⟨d, v, z1, z2, z3⟩
    · rw [z2]
      rw [z1] at q
      exact q _ _ _ [] x2 ⟨rfl, rfl⟩ nw_nil
    · rw [z2]
      rw [z1] at q
      exact q _ _ _ [] x2 ⟨z3, rfl⟩ nw_nil
def putP {α : Type} : List (List Key) → List α → List Key → α → List (List Key) × List α
  | k' :: ks, x :: xs, k, y => if k' = k then (k' :: ks, y :: xs) else (k' :: (putP ks xs k y).1, x :: (putP ks xs k y).2)
  | _, _, k, y => ([k], [y])
theorem putP_len {α : Type} : ∀ {ks : List (List Key)} {xs : List α} {k : List Key} {y : α}, ks.length = xs.length → (putP ks xs k y).1.length = (putP ks xs k y).2.length
  | [], [], k, y, _ => rfl
  | [], _ :: _, _, _, h => by simp at h
  | _ :: _, [], _, _, h => by simp at h
  | k' :: ks, x :: xs, k, y, h => by
    unfold putP
    split
    · simpa using h
    · simp [putP_len (k := k) (y := y) (show ks.length = xs.length by simpa using h)]
theorem putP_fst {α β : Type} : ∀ {ks : List (List Key)} {xs : List α} {zs : List β} {k : List Key} {y : α} {z : β}, ks.length = xs.length → ks.length = zs.length → (putP ks xs k y).1 = (putP ks zs k z).1
  | [], [], [], _, _, _, _, _ => rfl
  | [], _ :: _, _, _, _, _, h, _ => by simp at h
  | [], [], _ :: _, _, _, _, _, h => by simp at h
  | _ :: _, [], _, _, _, _, h, _ => by simp at h
  | _ :: _, _ :: _, [], _, _, _, _, h => by simp at h
  | k' :: ks, x :: xs, w :: zs, k, y, z, h, h2 => by
    unfold putP
    split
    · rfl
    · simp [putP_fst (k := k) (y := y) (z := z) (show ks.length = xs.length by simpa using h) (show ks.length = zs.length by simpa using h2)]
theorem putP_rep : ∀ {ks : List (List Key)} {ds : List D} {vs : List V} {k : List Key} {d : D} {v : V}, ks.length = ds.length → Reps K H ds vs → Rep K H d v → Reps K H (putP ks ds k d).2 (putP ks vs k v).2
  | [], [], vs, k, d, v, _, h, h2 => by
    have e : vs = [] := h
    subst e
    exact ⟨v, [], rfl, h2, rfl⟩
  | [], _ :: _, _, _, _, _, h, _, _ => by simp at h
  | _ :: _, [], _, _, _, _, h, _, _ => by simp at h
  | k' :: ks, x :: ds, _, k, d, v, hl, h, h2 => by
    obtain ⟨w, r, e1, h3, h4⟩ := h
    subst e1
    unfold putP
    by_cases e : k' = k
    · rw [if_pos e, if_pos e]; exact ⟨v, r, rfl, h2, h4⟩
    · rw [if_neg e, if_neg e]; exact ⟨w, _, rfl, h3, putP_rep (by simpa using hl) h4 h2⟩
theorem putK_zip : ∀ {ks : List (List Key)} {vs : List V} {k : List Key} {v : V}, ks.Nodup → ks.length = vs.length → putK (ks.zip vs) k v = (putP ks vs k v).1.zip (putP ks vs k v).2
  | [], [], k, v, _, _ => rfl
  | [], _ :: _, _, _, _, h => by simp at h
  | _ :: _, [], _, _, _, h => by simp at h
  | k' :: ks, w :: vs, k, v, hn, h => by
    have hn' := List.nodup_cons.mp hn
    unfold putP
    by_cases e : k' = k
    · rw [if_pos e]
      subst e
      unfold putK
      rw [if_pos (by simp)]
      rw [List.zip_cons_cons, List.map_cons, if_pos rfl, List.zip_cons_cons]
      congr 1
      refine (List.map_congr_left fun p hp => ?_).trans (List.map_id _)
      have : p.1 ≠ k' := fun z => hn'.1 (z ▸ (List.of_mem_zip (show (p.1, p.2) ∈ ks.zip vs from hp)).1)
      rw [if_neg this]; rfl
    · rw [if_neg e]
      have ih := putK_zip (k := k) (v := v) hn'.2 (show ks.length = vs.length by simpa using h)
      rw [List.zip_cons_cons, List.zip_cons_cons, ← ih]
      unfold putK
      rw [List.any_cons, decide_eq_false (show ¬ (k', w).1 = k from e), Bool.false_or]
      split
      · rw [List.map_cons, if_neg (show ¬ (k', w).1 = k from e)]
      · rfl
def sDPutL (i : Nat) (f g : FE) : FS := sUse f fun x r => match x.a with
  | .fz d => (match r[i]? with
    | some (.vl true (.dt ks ds)) => sUse g (fun y r => match keyO y.a with
      | some k => if ks.Nodup ∧ ks.length = ds.length ∧ ks.length < 100000 then .nx (r.set i (.vl true (.dt (putP ks ds k d).1 (putP ks ds k d).2))) else .bad
      | none => .bad) r
    | _ => .bad)
  | _ => .bad
theorem ds_dputL {j i : Nat} {o k0 : Expr} {pos' : Pos} (B : Bk c X j) (hv : PE X o (tVar i)) (h : DE c X e f) (hk : DE c X k0 g) (hs : swapsWith e (some (.Subscript o k0 pos')) pos.line X.env = pure false := by rfl) :
    DS c X (.Assign [.Subscript o k0 pos'] e pos) (sDPutL i f g) := by
  obtain ⟨t, p, s⟩ := h.ex
  obtain ⟨t2, p2, s2⟩ := hk.ex
  have hu : X.A.units + 1 < cLine := by have := B.hr.un; omega
  refine ⟨sDPut (tVar i) t2 t, ps_dput hu hv p2 p hs, fun r s' Hf H L sr D q => ?_⟩
  refine s.use sr q fun x v Hf1 H1 L1 x1 sr1 a1 n1 q1 => ?_
  have b2 := (a1.argR n1).a sr1.same0
  have x2 := x1.add n1 a1.nq
  have sr2 := sr.mono x2
  cases ex : x.a with
  | fz d =>
    simp only [ex] at q1
    rw [ex] at b2
    split at q1
    case h_2 => exact q1.elim
    rename_i ks ds hi
    obtain ⟨y0, hy0, _⟩ := sr2.slot hi
    refine ⟨y0, hy0, ?_⟩
    have q2 := q1.mono (addF_nw n1)
    refine s2.use sr2 q2 fun y u Hf3 H3 L3 x3 sr3 a3 n3 q3 => ?_
    have b4 := (a3.argR n3).a sr3.same0
    have x4 := x3.add n3 a3.nq
    have sr4 := sr2.mono x4
    split at q3
    case h_2 => exact q3.elim
    rename_i k ek
    by_cases hc : ks.Nodup ∧ ks.length = ds.length ∧ ks.length < 100000
    case neg => rw [if_neg hc] at q3; exact q3.elim
    rw [if_pos hc] at q3
    obtain ⟨b, eu, hb⟩ := keyO_rep x4.sub ek b4
    subst eu
    obtain ⟨yv, A, M, BB, h1, h2, h3, h4⟩ := sr4.put hi
    rw [hy0] at h1
    cases h1
    obtain ⟨a, vs, e1, k1, k2, k3, k4⟩ := h3
    subst e1 k4
    have lv : ks.length = vs.length := by rw [k2, Reps.length k3]
    have hd : Rep X.K (addF Hf3 H3 L3) d v := Rep.mono x4.fsame _ _ b2
    refine ⟨a, _, rfl, DPut.t k1 hb (by rw [List.length_zip, ← lv, Nat.min_self]; exact Nat.lt_of_lt_of_le hc.2.2 (by decide)), ?_⟩
    rw [putK_zip hc.1 lv]
    refine q3 _ _ _ _ (addF_nw n3) (h4 a _ _ (.vl true (.dt (putP ks ds k d).1 (putP ks ds k d).2)) [a] (by simp) k1 (Hk.ne rfl) (fun _ z => nomatch z) ⟨a, (putP ks vs k v).2, rfl, ?_, putP_len hc.2.1, putP_rep hc.2.1 k3 hd, rfl⟩ (by simp) fun x hx => .inl hx)
    rw [upd_same, putP_fst (z := v) hc.2.1 lv]
  | _ => simp only [ex] at q1; exact q1.elim
def eDIx (fd g : FE) : FE := fun r => (fd r).bind fun x => (g r).bind fun y => match dctO x.a, keyO y.a with
  | some p, some k => (match valP p.1 p.2 k with
    | some d => .ok (.nw (.fz d))
    | none => .bad)
  | _, _ => .bad
theorem So2 {t1 t2 : TE} {f g : FE} {k : R → R → Res R} (h1 : SoE c K t1 f) (h2 : SoE c K t2 g) {r : Env} {s : St} {L : List Addr} (sr : c.SR K r s Hf H L) {Q : VK} (q : PostE c K s Hf H Q ((f r).bind fun x => (g r).bind fun y => k x y)) {Q' : V → V → Hp → Prop}
    (hq : ∀ x y v w Hf2 H2, Ext Hf H Hf2 H2 → c.SR K r s Hf2 H2 L → RepV K Hf2 H2 x.a v → RepV K Hf2 H2 y.a w → PostE c K s Hf2 H2 Q (k x y) → Q' v w H2) : t1 s H fun v H1 => t2 s H1 fun w H2 => Q' v w H2 := by
  refine h1 r s Hf H L sr _ ?_
  cases e : f r with
  | bad => rw [e] at q; exact q.elim
  | exc e' => rw [e] at q; exact q
  | ok x =>
    rw [e] at q
    intro v Hf1 H1 L1 x1 a1 n1
    have sr1 := sr.mono x1
    have b1 := (a1.argR n1).a sr1.same0
    have x2 := x1.add n1 a1.nq
    have sr2 := sr.mono x2
    refine h2 r s (addF Hf1 H1 L1) H1 L sr2 _ ?_
    have q2 : PostE c K s (addF Hf1 H1 L1) H1 Q ((g r).bind fun y => k x y) := pstE.mono _ _ _ _ _ x2 q
    cases e2 : g r with
    | bad => rw [e2] at q2; exact q2.elim
    | exc e' => rw [e2] at q2; exact q2
    | ok y =>
      rw [e2] at q2
      intro w Hf3 H3 L3 x3 a3 n3
      have sr3 := sr2.mono x3
      have b3 := (a3.argR n3).a sr3.same0
      have x4 := x3.add n3 a3.nq
      exact hq x y v w _ H3 (x2.trans x4) (sr2.mono x4) (RepV.mono x4.fsame x4.same _ _ b1) b3 (pstE.mono _ _ _ _ _ x4 q2)
theorem de_dix {j : Nat} {o k0 : Expr} {fd : FE} (B : Bk c X j) (hd : DE c X o fd) (hk : DE c X k0 g) (hn : NoSl k0) : DE c X (.Subscript o k0 pos) (eDIx fd g) := by
  obtain ⟨t, p, s⟩ := hd.ex
  obtain ⟨t2, p2, s2⟩ := hk.ex
  have hu : X.A.units + 1 < cLine := by have := B.hr.un; omega
  refine ⟨tDGet t t2, pe_dget hu p p2 hn, fun r s' Hf H L sr Q q => ?_⟩
  refine So2 s s2 sr q fun x y v w Hf2 H2 x2 sr2 b1 b2 q2 => ?_
  split at q2
  case h_2 => exact q2.elim
  rename_i pr k ed ek
  obtain ⟨ks, ds⟩ := pr
  obtain ⟨a, vs, e1, hr, hl, hrep⟩ := dctO_rep sr2.sub ed b1
  obtain ⟨b, e2, hb⟩ := keyO_rep sr2.sub ek b2
  subst e1 e2
  split at q2
  case h_2 => exact q2.elim
  rename_i d ev
  rcases valP_rep (k := k) hl hrep with ⟨z1, _⟩ | ⟨d', v', z1, z2, z3⟩
  · rw [ev] at z1; cases z1
  · rw [ev] at z1
    cases z1
    exact ⟨a, v', rfl, .inr ⟨_, k, b, hr, rfl, hb, z2.symm⟩, q2 _ _ _ [] (Ext.refl sr2.sub) ⟨z3, rfl⟩ nw_nil⟩
def eDIn (neg : Bool) (g fd : FE) : FE := fun r => (g r).bind fun y => (fd r).bind fun x => match dctO x.a, keyO y.a with
  | some p, some k => fzR (.bl (xor neg (valP p.1 p.2 k).isSome))
  | _, _ => .bad
theorem so_din {t t2 : TE} {fd : FE} (neg : Bool) (s2 : SoE c K t2 g) (s : SoE c K t fd) : SoE c K (if neg then tDNotIn t2 t else tDIn t2 t) (eDIn neg g fd) := fun r s' Hf H L sr Q q => by
  have main : t2 s' H fun y H1 => t s' H1 fun x H2 => ∃ a o, x = .ref a ∧ DGet H2 a y o ∧ Q (.bl (xor neg o.isSome)) H2 := by
    refine So2 s2 s sr q fun y x w v Hf2 H2 x2 sr2 b2 b1 q2 => ?_
    split at q2
    case h_2 => exact q2.elim
    rename_i pr k ed ek
    obtain ⟨ks, ds⟩ := pr
    obtain ⟨a, vs, e1, hr, hl, hrep⟩ := dctO_rep sr2.sub ed b1
    obtain ⟨b, e2, hb⟩ := keyO_rep sr2.sub ek b2
    subst e1 e2
    refine ⟨a, _, rfl, .inr ⟨_, k, b, hr, rfl, hb, rfl⟩, ?_⟩
    rcases valP_rep (k := k) hl hrep with ⟨z1, z2⟩ | ⟨d', v', z1, z2, z3⟩
    · rw [z2]; rw [z1] at q2; exact q2 _ _ _ [] (Ext.refl sr2.sub) ⟨rfl, rfl⟩ nw_nil
    · rw [z2]; rw [z1] at q2; exact q2 _ _ _ [] (Ext.refl sr2.sub) ⟨rfl, rfl⟩ nw_nil
  cases neg with
  | true => simpa [tDNotIn] using main
  | false => simpa [tDIn] using main
theorem call_len_rdT {X : Cx} : CallR X (.builtin "len") (fun xs H Q => ∃ (p : Addr) (kvs : List (List Key × V)), xs = [.ref p] ∧ Rd H p (.dT kvs) ∧ Q (.int ((kvs.length : Nat) : Int)) H) := by
  intro pins s σ H xs us Q I r h
  obtain ⟨p, kvs, rfl, hp, q⟩ := h
  obtain ⟨u, rfl, rx⟩ := vals1 r
  obtain rfl : u = .ref p := rx
  obtain ⟨z, hd, ys, rel, dd⟩ := dt_rd I.hok hp
  have hl : kvs.length = ys.length := Paired.length rel
  refine call_len_dictH hd dd (by rw [← hl]; rw [sizeLine_eq] at z; omega) ?_
  rw [← hl]
  exact ⟨.int ((kvs.length : Nat) : Int), H, I.tok _, ⟨_, rfl⟩, q⟩
theorem call_isi_dT {X : Cx} : CallR X (.builtin "isinstance") (fun xs H Q => ∃ (p : Addr) (kvs : List (List Key × V)), xs = [.ref p, .ty "dict"] ∧ Rd H p (.dT kvs) ∧ Q (.bl true) H) := by
  intro pins s σ H xs us Q I r h
  obtain ⟨p, kvs, rfl, hp, q⟩ := h
  obtain ⟨u, u', rfl, rx, r2⟩ := vals2 r
  obtain rfl : u = .ref p := rx
  obtain rfl : u' = Value.type "dict" := r2
  obtain ⟨z, hd, ys, rel, dd⟩ := dt_rd I.hok hp
  obtain ⟨o, es, ep, h1, h2, _⟩ := dd
  refine PySem.W.kia_one (b := true) PySem.W.kitx_dict I.kIn ⟨o, h1, h2.1⟩ ?_ (fun z => nomatch z) fun tk => ⟨.bl true, H, I.tok _, rfl, q⟩
  unfold PySem.W.kitOne
  rw [if_pos (beq_self_eq_true _)]
def eDLen (f : FE) : FE := fun r => (f r).bind fun x => match dctO x.a with
  | some p => fzR (.int p.1.length)
  | none => .bad
theorem de_dlen {p : Pos} (hg : Gl X "len") (hm : X.mg "len" = none) (h : DE c X a f)
    (he : starEach [a] X.env = (false, eval a X.env) :: starEach [] X.env := by rfl) (hpl : (backTo pos (starEach ([] : List Expr) X.env)).any (·.1) = false := by rfl) : DE c X (.Call (.Name "len" p) [a] [] pos) (eDLen f) := by
  obtain ⟨t, pa, s⟩ := h.ex
  refine ⟨tCB _ (tCons t tNil), pe_callB call_len_rdT hg hm (by decide +kernel) (pa_cons pa pa_nil he) (by decide) (by decide) he hpl, fun r s' Hf H L sr Q q => ?_⟩
  refine s.run sr pstE q fun x v Hf1 H1 x1 sr1 a1 q1 => ?_
  cases et : dctO x.a with
  | none => simp only [et] at q1; exact q1.elim
  | some pr =>
    obtain ⟨ks, ds⟩ := pr
    simp only [et] at q1
    obtain ⟨da, vs, e1, hr, hl, hrep⟩ := dctO_rep sr1.sub et (a1.a sr1.same0)
    subst e1
    refine ⟨da, _, rfl, hr, ?_⟩
    have lv : ks.length = vs.length := by rw [hl, Reps.length hrep]
    rw [List.length_zip, ← lv, Nat.min_self]
    exact postE_fz sr1.sub q1 rfl
def eIsD (f : FE) : FE := fun r => (f r).bind fun x => match dctO x.a with
  | some _ => fzR (.bl true)
  | none => .bad
theorem de_isD {p : Pos} (hg : Gl X "isinstance") (hm : X.mg "isinstance" = none) (hT : PE X e (tC (.ty "dict"))) (h : DE c X a f)
    (he : starEach [a, e] X.env = (false, eval a X.env) :: starEach [e] X.env := by rfl) (hpl : (backTo pos (starEach [e] X.env)).any (·.1) = false := by rfl) (hs : starEach [e] X.env = (false, eval e X.env) :: starEach [] X.env := by rfl) :
    DE c X (.Call (.Name "isinstance" p) [a, e] [] pos) (eIsD f) := by
  obtain ⟨t, pa, s⟩ := h.ex
  refine ⟨tCB _ (tCons t (tCons (tC (.ty "dict")) tNil)), pe_callB call_isi_dT hg hm (by decide +kernel) (pa_cons pa (pa_cons hT pa_nil hs) he) (by decide) (by decide) he hpl, fun r s' Hf H L sr Q q => ?_⟩
  refine s.run sr pstE q fun x v Hf1 H1 x1 sr1 a1 q1 => ?_
  cases et : dctO x.a with
  | none => simp only [et] at q1; exact q1.elim
  | some pr =>
    obtain ⟨ks, ds⟩ := pr
    simp only [et] at q1
    obtain ⟨da, vs, e1, hr, hl, hrep⟩ := dctO_rep sr1.sub et (a1.a sr1.same0)
    subst e1
    exact ⟨da, _, rfl, hr, postE_fz sr1.sub q1 rfl⟩
end DL
namespace DL
open PySem L2
inductive HT where | z0 | o (h : Nat) | n (l r : HT)
def HT.ins : Nat → Nat → HT → Option HT
  | _, h, .z0 => some (.o h)
  | 0, _, .o _ => none
  | 0, _, .n _ _ => none
  | f + 1, h, .o g => if h = g then none else
    if h % 2 = 0 then (if g % 2 = 0 then (HT.ins f (h / 2) (.o (g / 2))).map fun t => .n t .z0 else some (.n (.o (h / 2)) (.o (g / 2))))
    else (if g % 2 = 0 then some (.n (.o (g / 2)) (.o (h / 2))) else (HT.ins f (h / 2) (.o (g / 2))).map fun t => .n .z0 t)
  | f + 1, h, .n l r => if h % 2 = 0 then (HT.ins f (h / 2) l).map fun t => .n t r else (HT.ins f (h / 2) r).map fun t => .n l t
def HT.mem : Nat → HT → Prop
  | _, .z0 => False
  | h, .o g => h = g
  | h, .n l r => if h % 2 = 0 then HT.mem (h / 2) l else HT.mem (h / 2) r
theorem HT.ins_ok : ∀ (f h : Nat) (t t' : HT), HT.ins f h t = some t' → ¬ HT.mem h t ∧ HT.mem h t' ∧ ∀ x, HT.mem x t → HT.mem x t'
  | f, h, .z0, t', e => by
    have : some (HT.o h) = some t' := by cases f <;> exact e
    cases this
    exact ⟨fun z => z, rfl, fun x z => z.elim⟩
  | 0, _, .o _, _, e => by cases e
  | 0, _, .n _ _, _, e => by cases e
  | f + 1, h, .o g, t', e => by
    simp only [HT.ins] at e
    by_cases hg : h = g
    · rw [if_pos hg] at e; cases e
    · rw [if_neg hg] at e
      refine ⟨hg, ?_⟩
      by_cases h2 : h % 2 = 0
      · rw [if_pos h2] at e
        by_cases g2 : g % 2 = 0
        · rw [if_pos g2] at e
          cases q : HT.ins f (h / 2) (.o (g / 2)) with
          | none => rw [q] at e; cases e
          | some t =>
            rw [q] at e
            cases e
            obtain ⟨_, i2, i3⟩ := HT.ins_ok f _ _ _ q
            refine ⟨by simp [HT.mem, h2, i2], fun x hx => ?_⟩
            have : x = g := hx
            subst this
            simp only [HT.mem, g2, if_true]
            exact i3 _ rfl
        · rw [if_neg g2] at e
          cases e
          refine ⟨by simp [HT.mem, h2], fun x hx => ?_⟩
          have : x = g := hx
          subst this
          simp [HT.mem, g2]
      · rw [if_neg h2] at e
        by_cases g2 : g % 2 = 0
        · rw [if_pos g2] at e
          cases e
          refine ⟨by simp [HT.mem, h2], fun x hx => ?_⟩
          have : x = g := hx
          subst this
          simp [HT.mem, g2]
        · rw [if_neg g2] at e
          cases q : HT.ins f (h / 2) (.o (g / 2)) with
          | none => rw [q] at e; cases e
          | some t =>
            rw [q] at e
            cases e
            obtain ⟨_, i2, i3⟩ := HT.ins_ok f _ _ _ q
            refine ⟨by simp [HT.mem, h2, i2], fun x hx => ?_⟩
            have : x = g := hx
            subst this
            simp only [HT.mem, g2, if_false]
            exact i3 _ rfl
  | f + 1, h, .n l r, t', e => by
    simp only [HT.ins] at e
    by_cases h2 : h % 2 = 0
    · rw [if_pos h2] at e
      cases q : HT.ins f (h / 2) l with
      | none => rw [q] at e; cases e
      | some t =>
        rw [q] at e
        cases e
        obtain ⟨i1, i2, i3⟩ := HT.ins_ok f _ _ _ q
        refine ⟨by simp [HT.mem, h2, i1], by simp [HT.mem, h2, i2], fun x hx => ?_⟩
        simp only [HT.mem] at hx ⊢
        split at hx
        · rename_i z; rw [if_pos z]; exact i3 _ hx
        · rename_i z; rw [if_neg z]; exact hx
    · rw [if_neg h2] at e
      cases q : HT.ins f (h / 2) r with
      | none => rw [q] at e; cases e
      | some t =>
        rw [q] at e
        cases e
        obtain ⟨i1, i2, i3⟩ := HT.ins_ok f _ _ _ q
        refine ⟨by simp [HT.mem, h2, i1], by simp [HT.mem, h2, i2], fun x hx => ?_⟩
        simp only [HT.mem] at hx ⊢
        split at hx
        · rename_i z; rw [if_pos z]; exact hx
        · rename_i z; rw [if_neg z]; exact i3 _ hx
def HT.all : List Nat → HT → Bool
  | [], _ => true
  | h :: hs, t => match HT.ins 70 h t with
    | none => false
    | some t' => HT.all hs t'
theorem HT.all_ok : ∀ (l : List Nat) (t : HT), HT.all l t = true → l.Nodup ∧ ∀ x ∈ l, ¬ HT.mem x t
  | [], _, _ => ⟨List.nodup_nil, fun _ h => nomatch h⟩
  | h :: hs, t, e => by
    simp only [HT.all] at e
    cases q : HT.ins 70 h t with
    | none => rw [q] at e; cases e
    | some t' =>
      rw [q] at e
      obtain ⟨i1, i2, i3⟩ := HT.ins_ok _ _ _ _ q
      obtain ⟨n1, n2⟩ := HT.all_ok hs t' e
      refine ⟨List.nodup_cons.mpr ⟨fun z => n2 h z i2, n1⟩, fun x hx => ?_⟩
      rcases List.mem_cons.mp hx with z | z
      · subst z; exact i1
      · exact fun m => n2 x z (i3 x m)
def hhP (p : Nat × Nat) : Int := reduceHash (Builtin.Tuple.tupleHashOf [hashInt (p.1 : Int), hashInt (p.2 : Int)])
def gridP (n : Nat) : List (Nat × Nat) := (List.range n).flatMap fun a => (List.range n).map fun b => (a, b)
theorem grid_all : HT.all ((gridP 61).map fun p => (hhP p % 18446744073709551616).toNat) .z0 = true := by decide +kernel
theorem hash_apart : ((gridP 61).map hhP).Nodup := by
  have h := (HT.all_ok _ _ grid_all).1
  have e : (gridP 61).map (fun p => (hhP p % 18446744073709551616).toNat) = ((gridP 61).map hhP).map fun i => (i % 18446744073709551616).toNat := by rw [List.map_map]; rfl
  rw [e] at h
  exact (List.pairwise_map.mp h).imp fun hne he => hne (by rw [he])
theorem hash_inj {a b a' b' : Nat} (h1 : a < 61) (h2 : b < 61) (h3 : a' < 61) (h4 : b' < 61) (h : hhP (a, b) = hhP (a', b')) : (a, b) = (a', b') := by
  have m : ∀ {a b : Nat}, a < 61 → b < 61 → (a, b) ∈ gridP 61 := fun ha hb => List.mem_flatMap.mpr ⟨_, List.mem_range.mpr ha, List.mem_map.mpr ⟨_, List.mem_range.mpr hb, rfl⟩⟩
  have n := hash_apart
  rw [List.Nodup, List.pairwise_map] at n
  obtain ⟨i, hi, e1⟩ := List.getElem_of_mem (m h1 h2)
  obtain ⟨j, hj, e2⟩ := List.getElem_of_mem (m h3 h4)
  rw [List.pairwise_iff_getElem] at n
  rcases Nat.lt_trichotomy i j with z | z | z
  · exact absurd (by rw [e1, e2]; exact h) (n i j hi hj z)
  · subst z; rw [← e1, ← e2]
  · exact absurd (by rw [e1, e2]; exact h.symm) (n j i hj hi z)
end DL
namespace PySem
open Sem (wp)
section
variable {prog : Program} {w : World} {K : Type} [DecidableEq K] {knd : HeapKind prog w K} {A : Around} {E : Value → Shared → Prop} {s : Shared}
theorem kt_call_dictH {o : Addr} {more : List (K × Addr × Value)} {Q : Value → Shared → Prop} (hu : knd.room A.in1.in1) (hoS : (o == sysModules) = false) (ho : s.heap.DictOfH knd o more) (hsz : more.length ≤ sizeLine)
    (hty : ∀ x ∈ more, s.TypeIs (.ref x.2.1) "tuple") (hap : (more.map fun x => knd.hash x.1).Nodup) (hkp : (s.heap.push { cls := .type "dict", data := .dict #[] }).DictOfH knd o more) (hnew : (s.heap.push { cls := .type "dict", data := .dict #[] }).DictOfH knd s.heap.objs.size [])
    (h : ∀ h', h'.DictOfH knd s.heap.objs.size more → Heap.SameBut s.heap.objs.size (s.heap.push { cls := .type "dict", data := .dict #[] }) h' → Q (.ref s.heap.objs.size) { s with heap := h' }) :
    wpAny (model prog w) A (call (.type "dict") [.ref o]) Q E s := by
  refine callType_codes (Q₁ := fun obj s₁ => obj = .ref s.heap.objs.size ∧ s₁ = { s with heap := s.heap.push { cls := .type "dict", data := .dict #[] } }) F.kt_called_dict (F.kt_typeCall_dict_1 _) F.entry_dict_init (kt_code_dict_new _ ⟨rfl, rfl⟩) ?_
  rintro obj s₁ ⟨rfl, rfl⟩
  have hdo : s.heap.objs.size ≠ o := by
    obtain ⟨_, _, _, hg, _⟩ := ho
    exact fun e => absurd (Heap.lt_size hg) (by rw [e]; exact Nat.lt_irrefl _)
  refine ⟨hnew.typeIs, F.args_dict_init_2 _ _, ?_⟩
  unfold Builtin.«dict.__init__»
  refine wpAny_bind ?_
  unfold Builtin.Dict.selfAndRest
  refine wpAny_bind (wpAny_notOrdered_dict hnew.typeIs ?_)
  show wpAny _ _ (pure (s.heap.objs.size, [Value.ref o])) _ _ _
  refine wpAny_pure ?_
  refine updateFrom_dictH (A := A.in1) .none hu hdo hoS hnew hkp (.inr ⟨fun x hx => ?_, hap⟩) (by simpa using hsz) fun h' d1 d2 hs => ?_
  · obtain ⟨ob, h1, h2⟩ := hty x hx
    exact ⟨ob, Heap.get?_push_of_some _ h1, h2⟩
  · rw [storedAllH_nil_of_nodup more ho.nodup] at d1
    exact ⟨rfl, h h' d1 hs⟩
end
end PySem
namespace DL
open PySem L2
def Apart (w : World) (ks : List (List Key)) : Prop := (ks.map fun k => reduceHash (Builtin.Tuple.tupleHashOf (k.map (keyH w)))).Nodup
theorem call_dictT {X : Cx} (hu : X.A.units + 4 < cLine) : CallR X (.type "dict") (fun xs H Q => ∃ (a : Addr) (kvs : List (List Key × V)), xs = [.ref a] ∧ Rd H a (.dT kvs) ∧ Apart X.w (kvs.map (·.1)) ∧ ∀ p, H p = none → Q (.ref p) (upd H p (.dT kvs))) := by
  intro pins s σ H xs us Q I r q
  obtain ⟨a, kvs, ex, hd, hap, q⟩ := q
  subst ex
  obtain ⟨u, eu, rx⟩ := vals1 r
  subst eu
  cases rx
  obtain ⟨z, lo, ys, rel, dd⟩ := dt_rd I.hok hd
  have I2 : Inv X pins σ H { s with heap := s.heap.push { cls := .type "dict", data := .dict #[] } } := I.kept (t' := s.toks) fun b ob q => Heap.get?_push_of_some _ q
  have all : ∀ {h : Heap} {l : List (List Key × V)} {m : List (List Key × Addr × Value)}, HOk X.prog X.w H h → KT H l m → ∀ x ∈ m, (tupleKind (mixKind X.prog X.w)).is h x.1 x.2.1 := by
    intro h l m ok q
    induction q with
    | nil => intro x hx; exact nomatch hx
    | @cons p q ps qs hq t ih =>
      intro x hx
      rcases List.mem_cons.mp hx with e | hx
      · subst e
        exact key_of ok (by rw [← hq.1]; exact hq.2.1)
      · exact ih x hx
  have hkp : (s.heap.push { cls := .type "dict", data := .dict #[] }).DictOfH (tupleKind (mixKind X.prog X.w)) a ys := by
    obtain ⟨o, es, ep, h1, h2, h3, h4, h5, h6⟩ := id dd
    exact ⟨o, es, ep, Heap.get?_push_of_some _ h1, h2, h3, h4, all I2.hok rel, h6⟩
  have hk : ys.map (fun x => x.1) = kvs.map (·.1) := by
    clear hkp dd all hap hd q
    induction rel with
    | nil => rfl
    | @cons p q ps qs hq t ih => rw [List.map_cons, List.map_cons, hq.1]; congr 1; exact ih (by simp at z; omega)
  refine kt_call_dictH (knd := tupleKind (mixKind X.prog X.w)) ?_ lo dd (by rw [← Paired.length rel]; exact z) (fun x hx => (all I.hok rel x hx).typeIs) ?_ hkp (Heap.DictOfH.new s.heap) fun h' d' hs => ?_
  · show X.A.in1.in1.units < cLine
    have : X.A.in1.in1.units = X.A.units + 1 + 1 := rfl
    omega
  · have : (ys.map fun x => (tupleKind (mixKind X.prog X.w)).hash x.1) = (kvs.map (·.1)).map fun k => reduceHash (Builtin.Tuple.tupleHashOf (k.map (keyH X.w))) := by
      rw [← hk, List.map_map]; rfl
    rw [this]; exact hap
  · have hm : (s.heap.objs.size == sysModules) = false := beq_eq_false_iff_ne.mpr (Nat.ne_of_gt I.big)
    obtain ⟨o, es, ep, h1, h2, h3, h4, h5, h6⟩ := id d'
    exact ⟨.ref s.heap.objs.size, upd H s.heap.objs.size (.dT kvs), I.laid (t' := s.toks) (fun b u e => (hs.2 b (Nat.ne_of_lt (Heap.lt_size e))).trans (Heap.get?_push_of_some _ e)) (Nat.le_refl _)
      (show ObjOk X.prog X.w _ _ _ (.dT kvs) from ⟨z, hm, ys, pairedM rel (fun p q hq => ⟨hq.1, by rw [upd_ne (ne_of_none hq.2.1 (I.hok.fresh (Nat.le_refl _)))]; exact hq.2.1, hq.2.2⟩), o, es, ep, h1, h2, h3, h4, h6⟩), rfl, q _ (I.hok.fresh (Nat.le_refl _))⟩
variable {c : Cn} {X : Cx} {a b e : Expr} {es : List Expr} {f g fa fb : FE} {pos : Pos} {fs : Env → Res (List O)} {K : PySem.W.Frag} {H0 H H' Hf Hf' : Hp}
def smK : List Key → Bool
  | [.inl i, .inl j] => decide (0 ≤ i ∧ i < 61 ∧ 0 ≤ j ∧ j < 61)
  | _ => false
theorem smK_is {k : List Key} (h : smK k = true) : ∃ i j : Nat, i < 61 ∧ j < 61 ∧ k = [.inl (i : Int), .inl (j : Int)] := by
  unfold smK at h
  split at h
  · rename_i i j
    have h := of_decide_eq_true h
    exact ⟨i.toNat, j.toNat, by omega, by omega, by rw [Int.toNat_of_nonneg h.1, Int.toNat_of_nonneg h.2.2.1]⟩
  · cases h
theorem apart_sm {w : World} {ks : List (List Key)} (n : ks.Nodup) (h : ks.all smK = true) : Apart w ks := by
  unfold Apart
  rw [List.Nodup, List.pairwise_map]
  refine List.Pairwise.imp_of_mem (fun {x y} hx hy hne he => hne ?_) n
  obtain ⟨i, j, h1, h2, e1⟩ := smK_is (List.all_eq_true.mp h x hx)
  obtain ⟨i', j', h3, h4, e2⟩ := smK_is (List.all_eq_true.mp h y hy)
  subst e1 e2
  have := hash_inj h1 h2 h3 h4 he
  cases this; rfl
def eDCopy (f : FE) : FE := fun r => (f r).bind fun x => match dctO x.a with
  | some p => if p.1.Nodup ∧ p.1.all smK = true then .ok (.nw (.dt p.1 p.2)) else .bad
  | none => .bad
theorem de_dcopy {j : Nat} {p : Pos} (B : Bk c X j) (hg : Gl X "dict") (hm : X.mg "dict" = none) (h : DE c X a f)
    (he : starEach [a] X.env = (false, eval a X.env) :: starEach [] X.env := by rfl) (hpl : (backTo pos (starEach ([] : List Expr) X.env)).any (·.1) = false := by rfl) : DE c X (.Call (.Name "dict" p) [a] [] pos) (eDCopy f) := by
  obtain ⟨t, pa, s⟩ := h.ex
  have hu : X.A.units + 4 < cLine := by have := B.hr.un; omega
  refine ⟨tCB _ (tCons t tNil), pe_callTy (call_dictT hu) hg hm (by decide +kernel) (pa_cons pa pa_nil he) (by decide) (by decide) he hpl, fun r s' Hf H L sr Q q => ?_⟩
  refine s.run sr pstE q fun x v Hf1 H1 x1 sr1 a1 q1 => ?_
  cases et : dctO x.a with
  | none => simp only [et] at q1; exact q1.elim
  | some pr =>
    obtain ⟨ks, ds⟩ := pr
    simp only [et] at q1
    by_cases hc : ks.Nodup ∧ ks.all smK = true
    case neg => rw [if_neg hc] at q1; exact q1.elim
    rw [if_pos hc] at q1
    obtain ⟨da, vs, e1, hr, hl, hrep⟩ := dctO_rep sr1.sub et (a1.a sr1.same0)
    subst e1
    have lv : ks.length = vs.length := by rw [hl, Reps.length hrep]
    refine ⟨da, _, rfl, hr, by rw [zip_fst' lv]; exact apart_sm hc.1 hc.2, fun p hp => ?_⟩
    exact q1 (.ref p) Hf1 _ [p] (Ext.new sr1.sub hp) ⟨p, vs, rfl, upd_same, hl, hrep, rfl⟩ ⟨by simp, fun x hx => by
      have e : x = p := by simpa using hx
      subst e
      exact ⟨hp, sub_none sr1.sub hp, by rw [upd_same]; simp⟩⟩
end DL
namespace DL
open PySem L2
variable {c : Cn} {X : Cx} {a b e : Expr} {es : List Expr} {f g fa fb : FE} {pos : Pos} {fs : Env → Res (List O)} {K : PySem.W.Frag} {H0 H H' Hf Hf' : Hp} {F G : FS} {st : Stmt} {sts : List Stmt} {ft : Env → Res Bool}
end DL
namespace DL
open PySem L2
variable {c : Cn} {X : Cx} {a b e : Expr} {f g fd : FE} {pos : Pos} {K : PySem.W.Frag} {H0 H H' Hf Hf' : Hp}
theorem Ext.own {p : Addr} {o o' : HO} (sub : Same Hf H) (hp : H p = none) {Hf1 H1 : Hp} (x : Ext Hf (upd H p o) Hf1 H1) (ho : ∀ φ : Hk, o ≠ φ.o) : Hf1 p = none ∧ H1 p = some o ∧ Ext Hf H Hf1 (upd H1 p o') := by
  have hpn := sub_none sub hp
  have hf1 : Hf1 p = none := by
    cases e : Hf1 p with
    | none => rfl
    | some u => exact absurd hpn (x.keep p (by rw [upd_same]; simp) (by rw [e]; simp))
  have h1 : H1 p = some o := x.same.at upd_same ho
  refine ⟨hf1, h1, ⟨fun a u h => ?_, x.fsame, fun a u e => ?_, fun a h1 h2 => ?_, fun h => (x.rows (h.new hp)).set h1 ho⟩⟩
  · have hne := ne_of_none h hp
    have h2 : upd H p o a = some u := by rw [upd_ne hne]; exact h
    rw [upd_ne hne]
    exact x.same a u h2
  · have hne : a ≠ p := fun z => by rw [z, hf1] at e; cases e
    rw [upd_ne hne]; exact x.sub a u e
  · have hne : a ≠ p := fun z => h1 (by rw [z]; exact hp)
    exact x.keep a (by rw [upd_ne hne]; exact h1) h2
end DL
namespace DL
open PySem PySem.Spec PyProof.Rows L2
variable {c : Cn} {X : Cx} {a b e : Expr} {es : List Expr} {f g fa fb : FE} {pos : Pos} {fs : Env → Res (List O)} {K : PySem.W.Frag} {H0 H H' Hf Hf' : Hp} {F G : FS}
theorem Reps.append : ∀ {ds es : List D} {vs ws : List V}, Reps K H ds vs → Reps K H es ws → Reps K H (ds ++ es) (vs ++ ws)
  | [], _, _, _, h, k => by have h' : _ = _ := h; subst h'; exact k
  | d :: ds, _, _, _, h, k => by
    obtain ⟨v, r, e, h1, h2⟩ := h
    subst e
    exact ⟨v, _, rfl, h1, Reps.append h2 k⟩
section
variable {k n : Nat} {m : Str} {tab : List (Str × (List O → Res O))} {apos : Pos} {o : Expr} {fo : FE}
end
end DL
namespace DL
open PySem L2
theorem dict_walkT {prog : Program} {w : World} {K : Type} [DecidableEq K] {knd : HeapKind prog w K} {A : Around} {E : Value → Shared → Prop} {s : Shared} {env : PySem.Env} {keys : List (Option Expr)} {values : List Expr} {pos : Pos} {Q : Value → Shared → Prop} (hu : knd.room A)
    (hall : (keys.all fun x => x.isSome) = true) (hl : keys.length = values.length) (h0 : keys ≠ []) (hlen : keys.length ≤ 15)
    (h : wpAny (model prog w) A (evalPairs (pairTrees keys values env pos)) (fun vs s₁ => ∃ ps, CarriesH knd s₁.heap vs ps ∧ Heap.DictOfH knd s₁.heap s.heap.objs.size [] ∧ ∀ (h' : Heap) (tk : Nat), Heap.DictOfH knd h' s.heap.objs.size (storedAllH [] ps) → Heap.SameBut s.heap.objs.size s₁.heap h' → Q (.ref s.heap.objs.size) { s₁ with heap := h', toks := tk }) E
      { s with heap := s.heap.push { cls := .type "dict", data := .dict #[] } }) : wpAny (model prog w) A (eval (.Dict keys values pos) env) Q E s := by
  have hn := pairTrees_length keys values env pos hall hl
  have hz := zip_pairTrees keys values env pos hall hl
  rw [arm_eval_Dict, hz, dictDisplay_pairs _ (fun he => h0 (List.length_eq_zero_iff.mp (by rw [he] at hn; simpa using hn.symm))) (by omega)]
  refine wpAny_bind (wpAny_standAt (wpAny_bind (wpAny_subDictH hu (by omega) (wpAny_mono h (fun vs s₁ h₁ => ?_) fun _ _ e => e))))
  obtain ⟨ps, hc, hm, hq⟩ := h₁
  exact ⟨ps, hc, hm, fun h' tk a b => wpAny_pure (hq h' tk a b)⟩
abbrev Tri := List Key × Addr × V
def mergeT (ks : List Tri) : List (List Key × V) := ks.foldl (fun acc x => putK acc x.1 x.2.2) []
def tDispT (trs : List (TE × TE)) : TE := fun σ H Q => ∀ p, H p = none → tPairs trs σ (upd H p (.dT [])) fun ps H2 => H2 p = some (.dT []) ∧ ∃ kvs : List Tri, ps = kvs.map (fun x => (.ref x.2.1, x.2.2)) ∧ (∀ x ∈ kvs, H2 x.2.1 = some (.tup (x.1.map kV))) ∧ kvs.length ≤ 15 ∧ Q (.ref p) (upd H2 p (.dT (mergeT kvs)))
theorem carriesT {P : Program} {w : World} {H : Hp} {h : Heap} (ok : HOk P w H h) : ∀ {kvs : List Tri} {ws : List (Value × Value)}, VV (kvs.map fun x => (V.ref x.2.1, x.2.2)) ws → (∀ x ∈ kvs, H x.2.1 = some (.tup (x.1.map kV))) →
    ∃ rs : List (List Key × Addr × Value), CarriesH (tupleKind (mixKind P w)) h ws rs ∧ Paired (fun (x : Tri) r => x.1 = r.1 ∧ x.2.1 = r.2.1 ∧ RelV x.2.2 r.2.2) kvs rs
  | [], ws, r, _ => by cases r; exact ⟨[], trivial, .nil⟩
  | x :: kvs, ws, r, hk => by
    cases r with
    | @cons _ q _ ws' hq t =>
      obtain ⟨rs, h1, h2⟩ := carriesT ok t fun y hy => hk y (List.mem_cons_of_mem _ hy)
      obtain ⟨a, b⟩ := q
      obtain ⟨r1, r2⟩ := hq
      obtain rfl : a = Value.ref x.2.1 := r1
      exact ⟨(x.1, x.2.1, b) :: rs, ⟨rfl, rfl, key_of ok (hk x List.mem_cons_self), h1⟩, .cons ⟨rfl, rfl, r2⟩ h2⟩
theorem KT_merge {H : Hp} : ∀ {kvs : List Tri} {rs : List (List Key × Addr × Value)} {ks : List (List Key × V)} {xs : List (List Key × Addr × Value)}, Paired (fun (x : Tri) r => x.1 = r.1 ∧ x.2.1 = r.2.1 ∧ RelV x.2.2 r.2.2) kvs rs → (∀ x ∈ kvs, H x.2.1 = some (.tup (x.1.map kV))) → KT H ks xs →
    KT H (kvs.foldl (fun acc x => putK acc x.1 x.2.2) ks) (rs.foldl (fun acc p => storedH acc p.1 p.2.1 p.2.2) xs)
  | [], _, ks, xs, r, _, k => by cases r; exact k
  | x :: kvs, _, ks, xs, r, hk, k => by
    cases r with
    | @cons _ q _ rs' hq t =>
      obtain ⟨r1, r2, r3⟩ := hq
      have hx := hk x List.mem_cons_self
      have k' : KT H (putK ks x.1 x.2.2) (storedH xs x.1 x.2.1 q.2.2) := KT.put k x.1 hx r3
      rw [List.foldl_cons, List.foldl_cons, ← r1, ← r2]
      exact KT_merge t (fun y hy => hk y (List.mem_cons_of_mem _ hy)) k'
theorem mergeT_len : ∀ (kvs : List Tri) (ks : List (List Key × V)), (kvs.foldl (fun acc x => putK acc x.1 x.2.2) ks).length ≤ ks.length + kvs.length
  | [], ks => Nat.le_refl _
  | x :: kvs, ks => by
    rw [List.foldl_cons, List.length_cons]
    have h1 := mergeT_len kvs (putK ks x.1 x.2.2)
    have h2 : (putK ks x.1 x.2.2).length ≤ ks.length + 1 := by
      unfold putK
      split
      · rw [List.length_map]; omega
      · rw [List.length_append]; simp
    omega
theorem pe_dispT {X : Cx} {pos : Pos} {keys : List (Option Expr)} {values : List Expr} {trs : List (TE × TE)} (hu : X.A.units < cLine) (h : PPs X pos keys values trs) (hall : (keys.all fun x => x.isSome) = true) (hl : keys.length = values.length) (h0 : keys ≠ []) (h15 : keys.length ≤ 15) : PE X (.Dict keys values pos) (tDispT trs) := by
  refine ⟨fun pins s σ H Q I q => ?_⟩
  have hn := HOk.fresh I.hok (Nat.le_refl s.heap.objs.size)
  have I1 : Inv X pins σ (upd H s.heap.objs.size (.dT [])) { s with heap := s.heap.push { cls := .type "dict", data := .dict #[] } } := Inv.laid (t' := s.toks) I (fun _ _ q => Heap.get?_push_of_some _ q) (Nat.le_refl _) (dt_empty s.heap I.big)
  refine dict_walkT (knd := tupleKind (mixKind X.prog X.w)) hu hall hl h0 h15 (thn (h.run pins _ σ _ _ I1 (q _ hn)) fun ws s2 z => ?_)
  obtain ⟨ps, H2, I2, rel, e, kvs, ep, hk, lk, q2⟩ := z
  subst ep
  obtain ⟨rs, c, pr⟩ := carriesT I2.hok rel hk
  obtain ⟨z, lo, ys, r0, dd⟩ := dt_rd I2.hok (.inl e)
  have ys0 : ys = [] := by cases r0; rfl
  subst ys0
  refine ⟨rs, c, dd, fun h' tk dd' hs => ?_⟩
  have hkt : KT H2 (mergeT kvs) (storedAllH [] rs) := KT_merge pr hk .nil
  have hkt' : KT (upd H2 s.heap.objs.size (.dT (mergeT kvs))) (mergeT kvs) (storedAllH [] rs) := KT.keeps hkt fun b ys hb => by
    have hne : b ≠ s.heap.objs.size := fun z => by rw [z, e] at hb; cases hb
    rw [upd_ne hne]; exact hb
  obtain ⟨o, es, ep, h1, h2, h3, h4, h5, h6⟩ := id dd'
  have hz : (mergeT kvs).length ≤ sizeLine := by
    have := mergeT_len kvs []
    rw [sizeLine_eq]
    unfold mergeT
    simp at this
    omega
  refine ⟨.ref s.heap.objs.size, upd H2 s.heap.objs.size (.dT (mergeT kvs)), d_write I2 (by rw [e]; trivial) hs ⟨o, h1⟩ ?_, rfl, q2⟩
  exact (show ObjOk X.prog X.w _ _ _ (.dT (mergeT kvs)) from ⟨hz, lo, _, hkt', o, es, ep, h1, h2, h3, h4, h6⟩)
variable {c : Cn} {X : Cx} {a b e : Expr} {es : List Expr} {f g fa fb : FE} {pos : Pos} {K : PySem.W.Frag} {H0 H H' Hf Hf' : Hp}
def dspL : List (FE × FE) → Env → Option (List (List Key × D))
  | [], _ => some []
  | p :: ps, r => match p.1 r with
    | .ok y => (match p.2 r with
      | .ok x => (match keyO y.a, x.a with
        | some k, .fz d => (dspL ps r).map ((k, d) :: ·)
        | _, _ => none)
      | _ => none)
    | _ => none
def eDspT (ps : List (FE × FE)) : FE := fun r => match dspL ps r with
  | some kds => if (kds.map (·.1)).Nodup ∧ kds.length ≤ 15 then .ok (.nw (.dt (kds.map (·.1)) (kds.map (·.2)))) else .bad
  | none => .bad
def SoPs (c : Cn) (K : PySem.W.Frag) (trs : List (TE × TE)) (fs : List (FE × FE)) : Prop := ∀ (r : Env) (s : St) (Hf H : Hp) (L : List Addr), c.SR K r s Hf H L → ∀ kds, dspL fs r = some kds → ∀ Q : List (V × V) → Hp → Prop,
  (∀ (Hf2 H2 : Hp) (kvs : List Tri), Ext Hf H Hf2 H2 → kvs.map (·.1) = kds.map (·.1) → (∀ x ∈ kvs, H2 x.2.1 = some (.tup (x.1.map kV))) → Reps K Hf2 (kds.map (·.2)) (kvs.map (·.2.2)) → Q (kvs.map fun x => (.ref x.2.1, x.2.2)) H2) → tPairs trs s H Q
structure DPs (c : Cn) (X : Cx) (pos : Pos) (keys : List (Option Expr)) (values : List Expr) (fs : List (FE × FE)) : Prop where
  ex : ∃ trs, PPs X pos keys values trs ∧ SoPs c X.K trs fs
theorem dps_nil : DPs c X pos [] [] [] := ⟨[], pps_nil, fun r s Hf H L sr kds e Q q => by
  cases e
  exact q Hf H [] (Ext.refl sr.sub) rfl (fun _ h => nomatch h) rfl⟩
theorem dps_cons {k v : Expr} {ks : List (Option Expr)} {vs : List Expr} {fs : List (FE × FE)} (hk : DE c X k g) (hv : DE c X v f) (h : DPs c X pos ks vs fs) : DPs c X pos (some k :: ks) (v :: vs) ((g, f) :: fs) := by
  obtain ⟨tk, pk, sk⟩ := hk.ex
  obtain ⟨tv, pv, sv⟩ := hv.ex
  obtain ⟨trs, ps, ss⟩ := h.ex
  refine ⟨_, pps_cons pk pv ps, fun r s Hf H L sr kds e Q q => ?_⟩
  show tk s H fun x H1 => tv s H1 fun y H2 => tPairs trs s H2 fun ps H3 => Q ((x, y) :: ps) H3
  unfold dspL at e
  cases eg : g r with
  | bad => simp only [eg] at e; cases e
  | exc z => simp only [eg] at e; cases e
  | ok y =>
    cases ef : f r with
    | bad => simp only [eg, ef] at e; cases e
    | exc z => simp only [eg, ef] at e; cases e
    | ok x =>
      simp only [eg, ef] at e
      split at e
      case h_2 => cases e
      rename_i k0 d ek ex
      cases el : dspL fs r with
      | none => rw [el] at e; cases e
      | some l =>
        rw [el] at e
        cases e
        refine sk.runO sr eg fun u Hf1 H1 x1 sr1 a1 => ?_
        have b1 := a1.a sr1.same0
        obtain ⟨b, eu, hb⟩ := keyO_rep sr1.sub ek b1
        subst eu
        refine sv.runO sr1 ef fun w Hf2 H2 x2 sr2 a2 => ?_
        have b2 := a2.a sr2.same0
        rw [ex] at b2
        refine ss r s Hf2 H2 L sr2 l el _ fun Hf3 H3 kvs x3 e1 e2 e3 => ?_
        refine q Hf3 H3 ((k0, b, w) :: kvs) (x1.trans (x2.trans x3)) (by simp [e1]) (fun z hz => ?_) ⟨w, _, rfl, Rep.mono x3.fsame _ _ b2, e3⟩
        rcases List.mem_cons.mp hz with e | hz
        · subst e
          exact x3.same.at (x2.same.at hb (Hk.ne rfl)) (Hk.ne rfl)
        · exact e2 z hz
theorem mergeT_nd : ∀ (kvs : List Tri) (ks : List (List Key × V)), (ks.map (·.1) ++ kvs.map (·.1)).Nodup → kvs.foldl (fun acc x => putK acc x.1 x.2.2) ks = ks ++ kvs.map fun x => (x.1, x.2.2)
  | [], ks, _ => by simp
  | x :: kvs, ks, h => by
    have hx : ¬ x.1 ∈ ks.map (·.1) := fun z => by
      have := (List.nodup_append.mp h).2.2 x.1 z x.1 (by simp)
      exact this rfl
    have e : putK ks x.1 x.2.2 = ks ++ [(x.1, x.2.2)] := putK_new _ (by
      have : ∀ l : List (List Key × V), ¬ x.1 ∈ l.map (·.1) → valV l x.1 = none := fun l => by
        induction l with
        | nil => intro _; rfl
        | cons p l ih =>
          intro hn
          rw [valV_neg (fun z => hn (by simp [z]))]
          exact ih fun z => hn (by simp at z ⊢; exact .inr z)
      exact this ks hx)
    rw [List.foldl_cons, e, mergeT_nd kvs _ (by simpa using h)]
    simp
theorem de_dspT {j : Nat} {keys : List (Option Expr)} {values : List Expr} {fs : List (FE × FE)} (B : Bk c X j) (h : DPs c X pos keys values fs) (hall : (keys.all fun x => x.isSome) = true := by rfl) (hl : keys.length = values.length := by rfl) (h0 : keys ≠ [] := by simp) (h15 : keys.length ≤ 15 := by decide) : DE c X (.Dict keys values pos) (eDspT fs) := by
  obtain ⟨trs, pp, ss⟩ := h.ex
  have hu : X.A.units < cLine := by have := B.hr.un; omega
  refine ⟨tDispT trs, pe_dispT hu pp hall hl h0 h15, fun r s Hf H L sr Q q p hp => ?_⟩
  have x0 : Ext Hf H Hf (upd H p (.dT [])) := Ext.new sr.sub hp
  have sr0 := sr.mono x0
  unfold eDspT at q
  cases e : dspL fs r with
  | none => rw [e] at q; exact q.elim
  | some kds =>
    simp only [e] at q
    by_cases hn : (kds.map (·.1)).Nodup ∧ kds.length ≤ 15
    case neg => rw [if_neg hn] at q; exact q.elim
    rw [if_pos hn] at q
    refine ss r s _ _ L sr0 kds e _ fun Hf2 H2 kvs x2 e1 e2 e3 => ?_
    obtain ⟨hf2, hp2, xx⟩ := Ext.own (o' := .dT (mergeT kvs)) sr.sub hp x2 (Hk.ne rfl)
    have em : mergeT kvs = (kds.map (·.1)).zip (kvs.map (·.2.2)) := by
      unfold mergeT
      rw [mergeT_nd kvs [] (by rw [e1]; simpa using hn.1), ← e1]
      simp [List.zip_map']
    have hlen : kvs.length ≤ 15 := by
      have := congrArg List.length e1
      simp at this
      omega
    refine ⟨hp2, kvs, rfl, e2, hlen, ?_⟩
    rw [em] at xx ⊢
    exact q (.ref p) Hf2 _ [p] xx ⟨p, _, rfl, upd_same, by simp, e3, rfl⟩ ⟨by simp, fun x hx => by
      have e : x = p := by simpa using hx
      subst e
      exact ⟨hp, hf2, by rw [upd_same]; simp⟩⟩
end DL
namespace DL
open PySem L2
def tListKeysT (td : TE) : TE := fun σ H Q => td σ H fun x H1 => ∃ (a : Addr) (kvs : List (List Key × V)), x = .ref a ∧ Rd H1 a (.dT kvs) ∧ ∀ (q : Addr) (bs : List Addr), H1 q = none → IsKeys H1 kvs bs → Q (.ref q) (upd H1 q (.lst (bs.map V.ref)))
theorem dt_raw {P : Program} {w : World} {H : Hp} {h : Heap} {a : Addr} {kvs : List (List Key × V)} (ok : HOk P w H h) (hd : Rd H a (.dT kvs)) : kvs.length ≤ sizeLine ∧ (a == sysModules) = false ∧ ∃ (xs : List (List Key × Addr × Value)) (es : Array DictEntry) (ep : Nat), KT H kvs xs ∧ h.DictRaw a es ep ∧ es.size = kvs.length ∧ ∀ (i : Nat) (hi : i < es.size), ∃ x, xs[i]? = some x ∧ es[i].key = Value.ref x.2.1 := by
  obtain ⟨z, lo, xs, rel, dd⟩ := dt_rd ok hd
  obtain ⟨o, es, ep, h1, h2, h3, h4, h5, h6⟩ := dd
  have hl : es.size = xs.length := by rw [← Array.length_toList, h4, List.length_map]
  refine ⟨z, lo, xs, es, ep, rel, ⟨o, h1, h2, h3⟩, by rw [hl, Paired.length rel], fun i hi => ?_⟩
  have hx : i < xs.length := by omega
  refine ⟨xs[i], List.getElem?_eq_getElem hx, ?_⟩
  have e : es.toList[i]? = (xs.map (entryOfKey (tupleKind (mixKind P w))))[i]? := by rw [h4]
  rw [List.getElem?_map, List.getElem?_eq_getElem hx, List.getElem?_eq_getElem (by rw [Array.length_toList]; exact hi)] at e
  have e2 := Option.some.inj e
  rw [Array.getElem_toList] at e2
  rw [e2]; rfl
theorem pe_listKeysT {X : Cx} {e : Expr} {td : TE} {p pos apos cpos : Pos} (hg : Gl X "list") (hm : X.mg "list" = none) (he : PE X e td) (hc : X.calm = true := by rfl)
    (hbase : attributeBase e "keys" X.env (eval e X.env) = eval e X.env := by rfl) (hline : (apos.endLine == cpos.line) = true := by rfl)
    (na : starEach [.Call (.Attribute e "keys" apos) [] [] cpos] X.env = (false, eval (.Call (.Attribute e "keys" apos) [] [] cpos) X.env) :: starEach [] X.env := by rfl) (hpl : (backTo pos (starEach ([] : List Expr) X.env)).any (·.1) = false := by rfl) :
    PE X (.Call (.Name "list" p) [.Call (.Attribute e "keys" apos) [] [] cpos] [] pos) (tListKeysT td) := by
  refine ⟨fun pins s σ H Q I h => ?_⟩
  refine wpAny_Call_Name_kw (ld_blt I hg hm (show bootBuiltins "list" = some (.type "list") by decide +kernel) ?_)
  refine PyProof.Rows.callWith_type1 (PyProof.Rows.args_cons ?_ na) na hpl
  refine wpAny_Call_method (T := "dict") (id := "dict.keys") hbase rfl hline F.plainAttrs_dict F.slot_dict_keys F.type_dict_keys (thn (he.run pins s σ H _ I h) fun u s1 ⟨x, H1, I1, rx, d, kvs, ex, hd, q⟩ => ?_)
  subst ex
  obtain rfl : u = Value.ref d := rx
  obtain ⟨z, lo, xs, es, ep, rel, raw, hl, hk⟩ := dt_raw I1.hok hd
  have hty := raw.typeIs
  refine ⟨hty, ?_, ?_⟩
  · obtain ⟨o, h1, h2, h3⟩ := raw
    intro a ea
    cases ea
    exact ⟨o, h1, h2.2.1⟩
  have I2 : Inv X pins σ H1 { s1 with heap := s1.heap.push { cls := .type "dict_keys", data := .fields #[.ref d] } } := I1.kept (t' := s1.toks) fun b ob q => Heap.get?_push_of_some _ q
  have hv : (s1.heap.push { cls := .type "dict_keys", data := .fields #[.ref d] }).get? s1.heap.objs.size = some { cls := .type "dict_keys", data := .fields #[.ref d] } := Heap.get?_push_size _ rfl
  have fin : wpAny (model X.prog X.w) X.A (call (.type "list") [.ref s1.heap.objs.size]) (fun v s' => ∃ x H', Inv X pins σ H' s' ∧ RelV x v ∧ Q x H') X.xe { s1 with heap := s1.heap.push { cls := .type "dict_keys", data := .fields #[.ref d] } } := by
    refine PySem.W.kdl_call (PySem.KdlSrc.rawKeys (es := es) (ep := ep) (d := d)) (I1.ok.hd hc) ⟨⟨_, hv, rfl, rfl⟩, raw.push _⟩ (by rw [hl]; exact z) fun h' tk acc' c' hkeep hS hacc => ?_
    obtain ⟨n0, hn0⟩ : ∃ n0, n0 = (s1.heap.push { cls := .type "dict_keys", data := .fields #[.ref d] }).objs.size := ⟨_, rfl⟩
    have lx := Paired.length rel
    have ea : acc'.toList = (xs.map fun x => x.2.1).map Value.ref := by
      have hsz : acc'.toList.length = es.size := by rw [Array.length_toList]; exact hacc.1
      refine List.ext_getElem? fun j => ?_
      by_cases hj : j < es.size
      · obtain ⟨x, e1, e2⟩ := hk j hj
        have hja : j < acc'.size := by rw [hacc.1]; exact hj
        obtain ⟨hi, e3⟩ := hacc.2 j acc'[j] (Array.getElem?_eq_getElem hja)
        rw [List.map_map, List.getElem?_map, e1, List.getElem?_eq_getElem (by omega), Array.getElem_toList, e3, e2]; rfl
      · rw [List.getElem?_eq_none (by omega), List.getElem?_eq_none (by simp; omega)]
    refine ⟨.ref n0, upd H1 n0 (.lst ((xs.map fun x => x.2.1).map V.ref)), ?_, by rw [hn0]; rfl, q _ _ (by rw [hn0]; exact I2.hok.fresh (Nat.le_refl _)) (isKeys_of rel)⟩
    rw [hn0]
    refine I2.laid hkeep (Nat.le_refl _) (show ObjOk X.prog X.w _ _ _ (.lst ((xs.map fun x => x.2.1).map V.ref)) from ⟨?_, acc'.toList, c', ?_, ?_⟩)
    · rw [List.length_map, List.length_map, ← lx]; exact z
    · rw [ea]; exact vals_refs _
    · rw [Array.toArray_toList]; exact hS
  show wpAny _ _ (callWith cpos (.builtin "dict.keys") [.ref d] [] []) _ X.xe s1
  refine method_meetsIn F.slot_dict_keys F.entry_dict_keys rfl (PySem.evalArgs_none ⟨rfl, hty, F.args_dict_keys_1 _, _, meets_dict_keys_raw d lo, ⟨es, ep, raw⟩, ?_⟩)
  refine PyProof.Rows.args_nil ?_
  exact fin
variable {c : Cn} {X : Cx} {a b e : Expr} {es : List Expr} {f g fd : FE} {pos : Pos} {K : PySem.W.Frag} {H0 H H' Hf Hf' : Hp}
def sKeyAt (m : Nat) (fd g : FE) : FS := sUse fd fun x r => match dctO x.a with
  | some p => sUse g (fun y r => match y.a with
    | .fz (.int k) => (match ixN p.1.length k with
      | some j => if m < r.length then .nx (r.set m (.tq (p.1.getD j []))) else .bad
      | none => .bad)
    | _ => .bad) r
  | none => .bad
theorem isKeys_at {H : Hp} : ∀ {kvs : List (List Key × V)} {bs : List Addr} {j : Nat} {p : List Key × V}, IsKeys H kvs bs → kvs[j]? = some p → ∃ b, bs[j]? = some b ∧ H b = some (.tup (p.1.map kV))
  | [], _, j, p, _, h => by simp at h
  | x :: kvs, _, 0, p, r, h => by
    cases r with
    | @cons _ q _ _ hq t =>
      simp at h
      subst h
      exact ⟨q, rfl, hq⟩
  | x :: kvs, _, j + 1, p, r, h => by
    cases r with
    | @cons _ q _ bs hq t =>
      obtain ⟨b, h1, h2⟩ := isKeys_at t (j := j) (by simpa using h)
      exact ⟨b, by simpa using h1, h2⟩
theorem ds_keyAt {m : Nat} {x : Str} {o i : Expr} {pos' p spos lpos apos cpos : Pos} (hN : X.N.Nodup) (hi : X.N[m]? = some x) (hx : Loc X.env.scope x) (hg : Gl X "list") (hm : X.mg "list" = none) (hd : DE c X o fd) (hk : DE c X i g) (hc : X.calm = true := by rfl)
    (hbase : attributeBase o "keys" X.env (eval o X.env) = eval o X.env := by rfl) (hline : (apos.endLine == cpos.line) = true := by rfl)
    (na : starEach [.Call (.Attribute o "keys" apos) [] [] cpos] X.env = (false, eval (.Call (.Attribute o "keys" apos) [] [] cpos) X.env) :: starEach [] X.env := by rfl) (hpl : (backTo lpos (starEach ([] : List Expr) X.env)).any (·.1) = false := by rfl)
    (hpi : PlainIx i := by exact fun _ _ => rfl)
    (hs : swapsWith (.Subscript (.Call (.Name "list" p) [.Call (.Attribute o "keys" apos) [] [] cpos] [] lpos) i spos) (some (.Name x pos')) pos.line X.env = pure false := by rfl)
    (hf : X.fn x = true ∨ X.env.scope.names.lookup x = some .local := by first | exact .inl rfl | exact .inr rfl | assumption) :
    DS c X (.Assign [.Name x pos'] (.Subscript (.Call (.Name "list" p) [.Call (.Attribute o "keys" apos) [] [] cpos] [] lpos) i spos) pos) (sKeyAt m fd g) := by
  obtain ⟨t, pa, s⟩ := hd.ex
  obtain ⟨t2, p2, s2⟩ := hk.ex
  refine ⟨tAsg (tOp (rIx X.K) (tListKeysT t) t2) (gName m), ps_set hN hi hx (pe_ix ix_seq (pe_listKeysT hg hm pa hc hbase hline na hpl) p2 hpi) hs hf, fun r s' Hf H L sr D q => ?_⟩
  refine s.use sr q fun x v Hf1 H1 L1 x1 sr1 a1 n1 q1 => ?_
  have b2 := (a1.argR n1).a sr1.same0
  have x2 := x1.add n1 a1.nq
  have sr2 := sr.mono x2
  cases ex : dctO x.a with
  | none => simp only [ex] at q1; exact q1.elim
  | some pr =>
    obtain ⟨ks, ds⟩ := pr
    simp only [ex] at q1
    obtain ⟨da, vs, e1, hr, hl, hrep⟩ := dctO_rep sr2.sub ex b2
    subst e1
    have lv : ks.length = vs.length := by rw [hl, Reps.length hrep]
    refine ⟨da, _, rfl, hr, fun q bs hq hb => ?_⟩
    have x3 : Ext (addF Hf1 H1 L1) H1 (addF Hf1 H1 L1) (upd H1 q (.lst (bs.map V.ref))) := Ext.new sr2.sub hq
    have sr3 := sr2.mono x3
    have q2 := (q1.mono (addF_nw n1))
    refine s2.use sr3 q2 fun y u Hf3 H3 L3 x4 sr4 a4 n4 q4 => ?_
    have b4 := (a4.argR n4).a sr4.same0
    have x5 := x4.add n4 a4.nq
    have sr5 := sr3.mono x5
    split at q4
    case h_2 => exact q4.elim
    rename_i k ek
    rw [ek] at b4
    have b5 : u = .int k := b4
    subst b5
    split at q4
    case h_2 => exact q4.elim
    rename_i j ej
    by_cases hmr : m < r.length
    case neg => rw [if_neg hmr] at q4; exact q4.elim
    rw [if_pos hmr] at q4
    have hjl := ixN_lt ej
    obtain ⟨b, hbj, hbt⟩ := isKeys_at hb (j := j) (p := (ks[j], vs[j]'(by omega))) (by rw [List.getElem?_eq_getElem (by rw [List.length_zip]; omega), List.getElem_zip])
    have hlb : bs.length = ks.length := by
      have := Paired.length hb
      rw [List.length_zip, ← lv, Nat.min_self] at this
      exact this.symm
    have hq3 : H3 q = some (.lst (bs.map V.ref)) := x4.same.at upd_same (Hk.ne rfl)
    have hbq : b ≠ q := fun z => by rw [z, hq] at hbt; cases hbt
    have hbt3 : H3 b = some (.tup (ks[j].map kV)) := x4.same.at (by rw [upd_ne hbq]; exact hbt) (Hk.ne rfl)
    refine rIx_own (os := ks.map fun k => kO k) (j := j) hq3 (by simp [hlb]) (by rw [List.getElem?_map, hbj]; rfl) (by rw [List.length_map]; exact ej) ?_
    obtain ⟨L5, sr6⟩ := sr5.storeQ hbt3 hmr
    rw [show ks.getD j [] = ks[j] by rw [List.getD_eq_getElem?_getD, List.getElem?_eq_getElem hjl]; rfl] at q4
    exact q4 _ _ _ _ (addF_nw n4) sr6
variable {sts : List Stmt} {F G : FS}
def sDPutP (i : Nat) (fp : Env → Res (List Nat)) (f g : FE) : FS := sUse f fun x r => match x.a with
  | .fz d => onP i fp (fun p o o1 => match o1 with
    | .dt ks ds => sUse g fun y r => match keyO y.a with
      | some k => if ks.Nodup ∧ ks.length = ds.length ∧ ks.length < 100000 then .nx (r.set i (.vl true (setP (.dt (putP ks ds k d).1 (putP ks ds k d).2) p o))) else .bad
      | none => .bad
    | _ => fun _ => .bad) r
  | _ => .bad
theorem ds_dputP {j i : Nat} {fp : Env → Res (List Nat)} {o k0 : Expr} {pos' : Pos} (B : Bk c X j) (h0 : DPa c X o i fp) (h : DE c X e f) (hk : DE c X k0 g) (hs : swapsWith e (some (.Subscript o k0 pos')) pos.line X.env = pure false := by rfl) :
    DS c X (.Assign [.Subscript o k0 pos'] e pos) (sDPutP i fp f g) := by
  obtain ⟨t0, p0, s0⟩ := h0.ex
  obtain ⟨t, p, s⟩ := h.ex
  obtain ⟨t2, p2, s2⟩ := hk.ex
  have hu : X.A.units + 1 < cLine := by have := B.hr.un; omega
  refine ⟨sDPut t0 t2 t, ps_dput hu p0 p2 p hs, fun r s' Hf H L sr D q => ?_⟩
  refine s.use sr q fun x v Hf1 H1 L1 x1 sr1 a1 n1 q1 => ?_
  have b2 := (a1.argR n1).a sr1.same0
  have x2 := x1.add n1 a1.nq
  have sr2 := sr.mono x2
  cases ex : x.a with
  | fz d =>
    simp only [ex] at q1
    rw [ex] at b2
    have q2 := q1.mono (addF_nw n1)
    refine s0.use sr2 q2 fun pp o o1 Hf2 H2 v0 w x3 sr3 hv ho ho1 hw q3 => ?_
    cases o1 with
    | dt ks ds =>
      dsimp only at q3
      refine s2.use sr3 q3 fun y u Hf4 H4 L4 x4 sr4 a4 n4 q4 => ?_
      have b4 := (a4.argR n4).a sr4.same0
      have x5 := x4.add n4 a4.nq
      have sr5 := sr3.mono x5
      split at q4
      case h_2 => exact q4.elim
      rename_i k ek
      by_cases hc : ks.Nodup ∧ ks.length = ds.length ∧ ks.length < 100000
      case neg => rw [if_neg hc] at q4; exact q4.elim
      rw [if_pos hc] at q4
      obtain ⟨b, eu, hb⟩ := keyO_rep x5.sub ek b4
      subst eu
      obtain ⟨v2, w2, M3, h1, h2, h3, ⟨_, h4⟩, h5⟩ := sr5.putP ho ho1
      rw [hv] at h1
      cases h1
      have ev := PathA.fn (PathA.mono x5.same hw) h2
      subst ev
      obtain ⟨a, vs, e1, k1, k2, k3, k4⟩ := h3
      subst e1 k4
      have lv : ks.length = vs.length := by rw [k2, Reps.length k3]
      have hd : Rep X.K (addF Hf4 H4 L4) d v := Rep.mono x5.fsame _ _ (Rep.mono x3.fsame _ _ b2)
      refine ⟨a, _, rfl, DPut.t k1 hb (by rw [List.length_zip, ← lv, Nat.min_self]; exact Nat.lt_of_lt_of_le hc.2.2 (by decide)), ?_⟩
      rw [putK_zip hc.1 lv]
      obtain ⟨L', sr6⟩ := h5 a (.dT (ks.zip vs)) (.dT ((putP ks vs k v).1.zip (putP ks vs k v).2)) (.dt (putP ks ds k d).1 (putP ks ds k d).2) [a] (by simp) k1 (Hk.ne rfl) (fun _ z => nomatch z) ⟨a, (putP ks vs k v).2, rfl, by rw [upd_same, putP_fst (z := v) hc.2.1 lv], putP_len hc.2.1, putP_rep hc.2.1 k3 hd, rfl⟩ (by simp) (by simp)
      exact q4 _ _ _ _ (addF_nw n4) sr6
    | _ => exact q3.elim
  | _ => simp only [ex] at q1; exact q1.elim
end DL
namespace DL
open PySem L2
theorem d_clearT {X : Cx} {pins : List (Addr × Obj)} {σ : St} {H : Hp} {s : Shared} {a : Addr} {kvs : List (List Key × V)} {A : Around} {E Q : Value → Shared → Prop} (I : Inv X pins σ H s) (e : H a = some (.dT kvs)) (h : ∀ s', Inv X pins σ (upd H a (.dT [])) s' → Q .none s') :
    wpAny (model X.prog X.w) A (call (.builtin "dict.clear") [.ref a]) Q E s := by
  obtain ⟨z, lo, xs, es, ep, rel, raw, hl, hk⟩ := dt_raw I.hok (.inl e)
  refine call_meetsIn F.slot_dict_clear raw.typeIs F.entry_dict_clear (F.args_dict_clear_1 (.ref a)) (meets_dict_clear_raw a) ⟨es, ep, raw, by rw [hl]; exact z, fun h' dd' hs => h _ ?_⟩
  obtain ⟨o, h1, h2, h3⟩ := dd'
  exact d_write I (by rw [e]; trivial) hs ⟨o, h1⟩ (show ObjOk X.prog X.w _ _ _ (.dT []) from ⟨Nat.zero_le _, lo, [], .nil, o, #[], _, h1, h2, h3, rfl, by simp⟩)
def rDClearT : V → List V → Hp → VK → Prop := fun x vs H Q => ∃ (a : Addr) (kvs : List (List Key × V)), x = .ref a ∧ vs = [] ∧ H a = some (.dT kvs) ∧ Q .non (upd H a (.dT []))
theorem mtd_clearT {X : Cx} : MtR X "dict.clear" rDClearT := fun pins s σ H x vs v us Q I rx rv h => by
  obtain ⟨a, kvs, ex, ev, e, q⟩ := h
  subst ex ev
  obtain rfl : v = Value.ref a := rx
  have hus := Vals.zero rv
  subst hus
  exact d_clearT I e fun s' I' => ⟨.non, upd H a (.dT []), I', rfl, q⟩
variable {c : Cn} {X : Cx} {a b e : Expr} {es : List Expr} {f g fd : FE} {pos : Pos} {K : PySem.W.Frag} {H0 H H' Hf Hf' : Hp}
def sDClr (i : Nat) : FS := fun r => match r[i]? with
  | some (.vl true (.dt _ _)) => .nx (r.set i (.vl true (.dt [] [])))
  | _ => .bad
theorem ds_dclr {i : Nat} {o : Expr} {apos cpos : Pos} (hv : PE X o (tVar i)) (hbase : attributeBase o "clear" X.env (eval o X.env) = eval o X.env := by rfl) (hline : (apos.endLine == cpos.line) = true := by rfl)
    (hsw : swapsWith (.Call (.Attribute o "clear" apos) [] [] cpos) none pos.line X.env = pure false := by rfl) : DS c X (.Expr (.Call (.Attribute o "clear" apos) [] [] cpos) pos) (sDClr i) := by
  refine ⟨_, ps_expr (pe_bm0 F.plainAttrs_dict F.slot_dict_clear F.type_dict_clear mtd_clearT hv hbase hline) hsw, fun r s' Hf H L sr D q => ?_⟩
  unfold sDClr at q
  split at q
  case h_2 => exact q.elim
  rename_i ks ds hi
  obtain ⟨y0, hy0, _⟩ := sr.slot hi
  obtain ⟨yv, A, M, BB, h1, h2, h3, h4⟩ := sr.put hi
  rw [hy0] at h1
  cases h1
  obtain ⟨a, vs, e1, k1, k2, k3, k4⟩ := h3
  subst e1 k4
  refine ⟨.ref a, hy0, ?_, a, _, rfl, rfl, k1, ?_⟩
  · exact .inr (.inr (.inl ⟨rfl, .inr ⟨_, k1⟩⟩))
  · exact q _ _ _ _ (Same.refl _) (h4 a _ _ (.vl true (.dt [] [])) [a] (by simp) k1 (Hk.ne rfl) (fun _ z => nomatch z) ⟨a, [], rfl, upd_same, rfl, rfl, rfl⟩ (by simp) fun x hx => .inl hx)
theorem samePairsT {prog : Program} {w : World} {K : Type} [DecidableEq K] {knd : HeapKind prog w K} {A : Around} {E : Value → Shared → Prop} {s : Shared} {nm : String} {a b : Addr} {xa xb : List (K × Addr × Value)} {Q : Bool → Shared → Prop} (hr : knd.room A)
    (ha : (a == sysModules) = false) (hb : (b == sysModules) = false) (da : Heap.DictOfH knd s.heap a xa) (db : Heap.DictOfH knd s.heap b xb)
    (hit : xa.length = xb.length → ∀ (i : Nat) (x : K × Addr × Value), xa[i]? = some x → ∃ (j : Nat) (y : Addr × Value), xb[j]? = some (x.1, y) ∧ SeqAt.EqP prog w A s x.2.2 y.2 true) (h : Q (xa.length == xb.length) s) : wpAny (model prog w) A (Builtin.Dict.samePairs nm a b) Q E s := by
  obtain ⟨oa, es, ep, hoa, hxa, hda, hka, hpa, hna⟩ := da
  obtain ⟨ob, es', ep', hob, hxb, hdb, hkb, hpb, hnb⟩ := db
  have hla : es.size = xa.length := by rw [← Array.length_toList, hka, List.length_map]
  have hlb : es'.size = xb.length := by rw [← Array.length_toList, hkb, List.length_map]
  unfold Builtin.Dict.samePairs Builtin.Dict.showsAll
  rw [if_neg (by rw [ha]; exact Bool.false_ne_true), if_neg (by rw [hb]; exact Bool.false_ne_true)]
  refine wpAny_bind (wpAny_pure (wpAny_bind (wpAny_pure (wpAny_bind (wpAny_dictEntries hoa hda (wpAny_bind (wpAny_dictEntries hob hdb ?_)))))))
  by_cases hsz : es.size = es'.size
  · have hlen : xa.length = xb.length := by omega
    have hit := hit hlen
    rw [show (xa.length == xb.length) = true from by rw [hlen]; exact beq_self_eq_true _] at h
    rw [if_neg (by simp [hsz])]
    refine wpAny_bind (wpAny_dictEpoch hoa hda ?_)
    rw [Std.Legacy.Range.forIn_eq_forIn_range']
    refine wpAny_bind (wpAny_forIn_list _ (fun l r s' => s' = s ∧ r = (none, ()) ∧ ∀ i ∈ l, i < es.size) _ ?_ ?_ _ _ ?_)
    · rintro i rest r s' ⟨rfl, rfl, hi⟩
      have hi1 := hi i List.mem_cons_self
      refine wpAny_bind (wpAny_dictEntries hoa hda ?_)
      have hx : i < xa.length := by omega
      have e1 : es[i]? = some (entryOfKey knd xa[i]) := by
        rw [← Array.getElem?_toList, hka, List.getElem?_map, List.getElem?_eq_getElem hx]; rfl
      rw [e1]
      obtain ⟨j, y, hj, hq⟩ := hit i xa[i] (List.getElem?_eq_getElem hx)
      refine wpAny_bind (wpAny_holding (wpAny_bind ?_))
      refine wpAny_dictFind_heap (k := xa[i].1) hr (hpa _ (List.getElem_mem hx)) hob hdb hkb hpb hnb (fun hno => absurd hj (hno j y)) fun j' p hj' => ?_
      have hjj : j' = j ∧ p = y := by
        have h1 := (List.getElem?_eq_some_iff.mp hj).1
        have h2 := (List.getElem?_eq_some_iff.mp hj').1
        have e : (xb.map fun x => x.1)[j]? = (xb.map fun x => x.1)[j']? := by rw [List.getElem?_map, List.getElem?_map, hj, hj']; rfl
        have := (List.getElem?_inj (by simpa using h1) hnb).mp e
        subst this
        rw [hj] at hj'
        exact ⟨rfl, (Prod.mk.inj (Option.some.inj hj')).2.symm⟩
      obtain ⟨rfl, rfl⟩ := hjj
      refine wpAny_bind (wpAny_dictEntries hob hdb ?_)
      have e2 : es'[j']? = some (entryOfKey knd (xa[i].1, p)) := by
        rw [← Array.getElem?_toList, hkb, List.getElem?_map, hj]; rfl
      rw [e2]
      refine wpAny_holding (hq _ _ ?_)
      rw [if_neg (by simp)]
      refine wpAny_bind (wpAny_dictEpoch hoa hda ?_)
      rw [if_neg (by simp)]
      exact wpAny_pure ⟨rfl, rfl, fun i hi' => hi i (List.mem_cons_of_mem _ hi')⟩
    · rintro r s' ⟨rfl, rfl, _⟩
      exact wpAny_pure h
    · exact ⟨rfl, rfl, fun i hi => by
        have := List.mem_range'.mp hi
        simp at this
        omega⟩
  · have hlen : ¬ xa.length = xb.length := by omega
    rw [show (xa.length == xb.length) = false from by simpa using hlen] at h
    rw [if_pos (by simpa using hsz)]
    exact wpAny_bind (wpAny_rule (wpAny_pure h))
theorem ofH_type {prog : Program} {w : World} {K : Type} [DecidableEq K] {knd : HeapKind prog w K} {s : Shared} {a : Addr} {xa : List (K × Addr × Value)} (da : Heap.DictOfH knd s.heap a xa) : s.TypeIs (.ref a) "dict" := by
  obtain ⟨oa, es, ep, hoa, hxa, hda, hka, hpa, hna⟩ := da
  exact ⟨oa, hoa, hxa.1⟩
theorem rcT_dicts {prog : Program} {w : World} {K : Type} [DecidableEq K] {knd : HeapKind prog w K} {A : Around} {s : Shared} {a b : Addr} {xa xb : List (K × Addr × Value)} (hr : knd.room A.in1) (hu : A.units < cLine)
    (ha : (a == sysModules) = false) (hb : (b == sysModules) = false) (da : Heap.DictOfH knd s.heap a xa) (db : Heap.DictOfH knd s.heap b xb)
    (hit : xa.length = xb.length → ∀ (i : Nat) (x : K × Addr × Value), xa[i]? = some x → ∃ (j : Nat) (y : Addr × Value), xb[j]? = some (x.1, y) ∧ SeqAt.EqP prog w A.in1 s x.2.2 y.2 true) (E Q : Value → Shared → Prop) (h : Q (.bool (xa.length == xb.length)) s) : wpAny (model prog w) A (richCompare .Eq (.ref a) (.ref b)) Q E s := by
  refine wpAny_richCompare_same_room (ofH_type da) (ofH_type db) F.slot_dict_eq (wpAny_call_entry F.slot_dict_eq (ofH_type da) F.entry_dict_eq ?_ (F.args_dict_eq_2 (.ref a) (.ref b))) hu
  refine wpAny_bind (wpAny_bind (wpAny_notOrdered_dict (ofH_type da) (wpAny_pure (wpAny_bind (wpAny_isInstance (ofH_type db) F.sub_dict_dict ?_)))))
  simp only [Bool.not_true, Bool.false_eq_true, if_false]
  refine wpAny_bind (wpAny_pure (wpAny_bind (wpAny_pure (wpAny_bind (samePairsT hr ha hb da db hit (wpAny_pure ?_))))))
  refine ⟨.bool (xa.length == xb.length), ?_, ?_, h⟩
  · simp
  · exact fun z => nomatch z
variable {c : Cn} {X : Cx} {a b e : Expr} {es : List Expr} {f g fd fa fb : FE} {pos : Pos} {K : PySem.W.Frag} {H0 H H' Hf Hf' : Hp}
def EqDd (H : Hp) (x y : V) (k : Bool) : Prop := ∃ (a b : Addr) (ka kb : List (List Key × V)), x = .ref a ∧ y = .ref b ∧ Rd H a (.dT ka) ∧ Rd H b (.dT kb) ∧ (ka.length = kb.length → ka.map (·.1) = kb.map (·.1) ∧ ∀ (i : Nat) (p q : List Key × V), ka[i]? = some p → kb[i]? = some q → ∃ n : Int, p.2 = .int n ∧ q.2 = .int n) ∧ k = (ka.length == kb.length)
theorem eqDd_rc {X : Cx} {A : Around} {s : Shared} {H : Hp} {x y : V} {v u : Value} {k : Bool} (hu : A.in1.units < cLine) (ok : HOk X.prog X.w H s.heap) (rx : RelV x v) (ry : RelV y u) (h : EqDd H x y k) : ∃ a b, v = .ref a ∧ u = .ref b ∧ (∀ (E Q : Value → Shared → Prop), Q (.bool k) s → wpAny (model X.prog X.w) A (richCompare .Eq v u) Q E s) := by
  obtain ⟨a, b, ka, kb, ex, ey, ha, hb, hk, ek⟩ := h
  subst ex ey
  obtain rfl : v = Value.ref a := rx
  obtain rfl : u = Value.ref b := ry
  obtain ⟨za, la, xa, ra, da⟩ := dt_rd ok ha
  obtain ⟨zb, lb, xb, rb, db⟩ := dt_rd ok hb
  have l1 := Paired.length ra
  have l2 := Paired.length rb
  have hu' : A.units < cLine := by
    have : A.in1.units = A.units + 1 := rfl
    omega
  refine ⟨a, b, rfl, rfl, fun E Q q => rcT_dicts (knd := tupleKind (mixKind X.prog X.w)) hu hu' la lb da db (fun hl i x hx => ?_) E Q (by rw [← l1, ← l2, ← ek]; exact q)⟩
  obtain ⟨e1, e2⟩ := hk (by omega)
  have hi := (List.getElem?_eq_some_iff.mp hx).1
  have gp : ∀ {ks : List (List Key × V)} {xs : List (List Key × Addr × Value)}, KT H ks xs → ∀ i (h1 : i < ks.length) (h2 : i < xs.length), ks[i].1 = xs[i].1 ∧ RelV ks[i].2 xs[i].2.2 := by
    intro ks xs r
    induction r with
    | nil => intro i h1 _; simp at h1
    | cons hq t ih =>
      intro i h1 h2
      cases i with
      | zero => exact ⟨hq.1, hq.2.2⟩
      | succ i => exact ih i (by simpa using h1) (by simpa using h2)
  obtain ⟨k1, v1⟩ := gp ra i (by omega) hi
  obtain ⟨k2, v2⟩ := gp rb i (by omega) (by omega)
  obtain ⟨n, p1, p2⟩ := e2 i ka[i] kb[i] (List.getElem?_eq_getElem (by omega)) (List.getElem?_eq_getElem (by omega))
  have hx' : x = xa[i] := by
    rw [List.getElem?_eq_getElem hi] at hx
    exact (Option.some.inj hx).symm
  subst hx'
  have ekk : xa[i].1 = (xb[i]'(by omega)).1 := by
    rw [← k1, ← k2]
    have : (ka.map (·.1))[i]? = (kb.map (·.1))[i]? := by rw [e1]
    rw [List.getElem?_map, List.getElem?_map, List.getElem?_eq_getElem (by omega), List.getElem?_eq_getElem (by omega)] at this
    exact Option.some.inj this
  refine ⟨i, (xb[i]'(by omega)).2, by rw [List.getElem?_eq_getElem (by omega), ekk], ?_⟩
  rw [p1] at v1
  rw [p2] at v2
  obtain ⟨t1, w1⟩ := v1
  obtain ⟨t2, w2⟩ := v2
  have := (SeqAt.EqAt.int_int (A := A.in1) (s := s) n t1 n t2).eqP (prog := X.prog) (w := X.w)
  rw [beq_self_eq_true] at this
  show SeqAt.EqP X.prog X.w A.in1 s xa[i].2.2 (xb[i]'(by omega)).2.2 true
  rw [w1, w2]
  exact this
def rEqT : V → V → Hp → VK → Prop := fun x y H Q => (∃ k, EqDd H x y k ∧ Q (.bl k) H) ∨ ∃ (la lb : Addr) (xs ys : List V), x = .ref la ∧ y = .ref lb ∧ H la = some (.lst xs) ∧ H lb = some (.lst ys) ∧ xs.length = ys.length ∧ (∀ (i : Nat) (p q : V), xs[i]? = some p → ys[i]? = some q → EqDd H p q true) ∧ Q (.bl true) H
theorem op_eqT {X : Cx} (hu : X.A.units + 64 < cLine) : OpR X (compareOp .Eq) rEqT := fun pins s σ H x y v u Q I rx ry h => by
  have iu : ∀ A : Around, A.in1.units = A.units + 1 := fun _ => rfl
  show wpAny (model X.prog X.w) X.A (richCompare .Eq v u) _ X.xe s
  rcases h with ⟨k, hk, q⟩ | ⟨la, lb, xs, ys, ex, ey, hla, hlb, hl, hk, q⟩
  · obtain ⟨a, b, ev, eu, hq⟩ := eqDd_rc (A := X.A) (by rw [iu]; omega) I.hok rx ry hk
    exact hq _ _ ⟨.bl k, H, I, rfl, q⟩
  · subst ex ey
    obtain rfl : v = Value.ref la := rx
    obtain rfl : u = Value.ref lb := ry
    obtain ⟨z1, us, c1, v1, g1⟩ := (show ObjOk X.prog X.w H s.heap la (.lst xs) from I.hok la _ hla)
    obtain ⟨z2, us2, c2, v2, g2⟩ := (show ObjOk X.prog X.w H s.heap lb (.lst ys) from I.hok lb _ hlb)
    have l1 := Paired.length v1
    have l2 := Paired.length v2
    refine SeqAt.rcP_lists (items := us.toArray) (items2 := us2.toArray) (e := fun _ => true) ⟨_, g1, rfl, _, rfl⟩ ⟨_, g2, rfl, _, rfl⟩ (by simp; omega) (by omega) (fun j h1 h2 => ?_) _ _ ⟨.bl true, H, I, (by rw [show ((List.range us.toArray.size).all fun _ => true) = true from List.all_eq_true.mpr fun _ _ => rfl]; rfl), q⟩
    have j1 : j < us.length := by simpa using h1
    have j2 : j < us2.length := by simpa using h2
    have gp : ∀ {vs : List V} {ws : List Value}, Vals vs ws → ∀ i (h1 : i < vs.length) (h2 : i < ws.length), RelV vs[i] ws[i] := by
      intro vs ws r
      induction r with
      | nil => intro i h1 _; simp at h1
      | cons hq t ih =>
        intro i h1 h2
        cases i with
        | zero => exact hq
        | succ i => exact ih i (by simpa using h1) (by simpa using h2)
    have r1 := gp v1 j (by omega) j1
    have r2 := gp v2 j (by omega) j2
    obtain ⟨a, b, ev, eu, hq⟩ := eqDd_rc (A := X.A.in1) (by rw [iu, iu]; omega) I.hok r1 r2 (hk j xs[j] ys[j] (List.getElem?_eq_getElem (by omega)) (List.getElem?_eq_getElem (by omega)))
    show SeqAt.EqP X.prog X.w X.A.in1 s us.toArray[j] us2.toArray[j] true
    rw [List.getElem_toArray, List.getElem_toArray, ev, eu]
    rw [ev, eu] at hq
    by_cases hab : a = b
    · subst hab
      exact fun E Q q => W.EqTree.at (W.EqTree.same (prog := X.prog) (w := X.w) (n := 0)) X.A.in1 (by rw [iu]; omega) E Q q
    · exact SeqAt.eqP_refs hab hq
def eqIs : List D → List D → Bool
  | [], [] => true
  | .int a :: ds, .int b :: es => decide (a = b) && eqIs ds es
  | _, _ => false
theorem eqIs_at : ∀ {ds es : List D}, eqIs ds es = true → ds.length = es.length ∧ ∀ i (h1 : i < ds.length) (h2 : i < es.length), ∃ n : Int, ds[i] = .int n ∧ es[i] = .int n
  | [], [], _ => ⟨rfl, fun i h _ => by simp at h⟩
  | d :: ds, [], h => by cases d <;> simp [eqIs] at h
  | [], e :: es, h => by simp [eqIs] at h
  | d :: ds, e :: es, h => by
    cases d with
    | int a =>
      cases e with
      | int b =>
        simp only [eqIs, Bool.and_eq_true, decide_eq_true_eq] at h
        obtain ⟨h1, h2⟩ := eqIs_at h.2
        refine ⟨by simp [h1], fun i g1 g2 => ?_⟩
        cases i with
        | zero => exact ⟨a, rfl, by rw [h.1]; rfl⟩
        | succ i => exact h2 i (by simpa using g1) (by simpa using g2)
      | _ => simp [eqIs] at h
    | _ => simp [eqIs] at h
def eqDd : D → D → Option Bool
  | .dct ks ds, .dct ls es => if ks.length = ls.length then (if ks = ls ∧ eqIs ds es = true then some true else none) else some false
  | _, _ => none
def eqDT : D → D → Option Bool
  | .lst xs, .lst ys => if xs.length = ys.length ∧ (List.zipWith eqDd xs ys).all (· == some true) = true then some true else none
  | d, e => eqDd d e
def gEqT (a b : O) : Res R := match eqDT (er a) (er b) with
  | some k => fzR (.bl k)
  | none => .bad
theorem eqDd_ok {d e : D} {x y : V} {k : Bool} (h1 : Rep K H d x) (h2 : Rep K H e y) (h : eqDd d e = some k) : EqDd H x y k := by
  unfold eqDd at h
  split at h
  case h_2 => cases h
  rename_i ks ds ls es
  obtain ⟨a, vs, ex, g1, l1, r1⟩ := h1
  obtain ⟨b, ws, ey, g2, l2, r2⟩ := h2
  have lv := Reps.length r1
  have lw := Reps.length r2
  refine ⟨a, b, _, _, ex, ey, g1, g2, fun hl => ?_, ?_⟩
  · rw [List.length_zip, List.length_zip] at hl
    have hkl : ks.length = ls.length := by omega
    rw [if_pos hkl] at h
    split at h
    case isFalse => cases h
    rename_i hc
    obtain ⟨e1, e3⟩ := hc
    subst e1
    obtain ⟨e2, e3⟩ := eqIs_at e3
    refine ⟨by rw [zip_fst' (by omega), zip_fst' (by omega)], fun i p q hp hq => ?_⟩
    rw [List.getElem?_zip_eq_some] at hp hq
    have hi : i < ds.length := by
      have := (List.getElem?_eq_some_iff.mp hp.2).1
      omega
    obtain ⟨v, e4, e5⟩ := reps_get r1 (List.getElem?_eq_getElem hi)
    obtain ⟨w, e6, e7⟩ := reps_get r2 (List.getElem?_eq_getElem (show i < es.length by omega))
    rw [hp.2] at e4
    rw [hq.2] at e6
    cases e4
    cases e6
    obtain ⟨n, n1, n2⟩ := e3 i hi (by omega)
    rw [n1] at e5
    rw [n2] at e7
    exact ⟨n, e5, e7⟩
  · rw [List.length_zip, List.length_zip]
    by_cases hkl : ks.length = ls.length
    · rw [if_pos hkl] at h
      split at h
      case isFalse => cases h
      cases h
      symm
      rw [beq_iff_eq]; omega
    · rw [if_neg hkl] at h
      cases h
      symm
      rw [beq_eq_false_iff_ne]; omega
theorem pr_eqT : PureR K rEqT gEqT := fun c s Hf H x y a b Q sub ha hb q => by
  unfold gEqT at q
  cases e : eqDT (er a) (er b) with
  | none => simp only [e] at q; exact q.elim
  | some k =>
    simp only [e] at q
    have h1 := RepV.rep sub a x ha
    have h2 := RepV.rep sub b y hb
    generalize er a = d1 at *
    generalize er b = d2 at *
    unfold eqDT at e
    split at e
    · rename_i ds es
      split at e
      case isFalse => cases e
      rename_i hc
      cases e
      obtain ⟨la, vs, ex, g1, r1⟩ := h1
      obtain ⟨lb, ws, ey, g2, r2⟩ := h2
      have lv := Reps.length r1
      have lw := Reps.length r2
      refine .inr ⟨la, lb, vs, ws, ex, ey, g1, g2, by omega, fun i p q hp hq => ?_, postE_fz sub q rfl⟩
      have hi : i < ds.length := by
        have := (List.getElem?_eq_some_iff.mp hp).1
        omega
      have hi2 : i < es.length := by omega
      obtain ⟨v, e4, e5⟩ := reps_get r1 (List.getElem?_eq_getElem hi)
      obtain ⟨w, e6, e7⟩ := reps_get r2 (List.getElem?_eq_getElem hi2)
      rw [hp] at e4
      rw [hq] at e6
      cases e4
      cases e6
      have := List.all_eq_true.mp hc.2 (eqDd ds[i] es[i]) (List.mem_iff_getElem.mpr ⟨i, by simp; omega, by simp⟩)
      exact eqDd_ok e5 e7 (by simpa using this)
    · exact .inl ⟨k, eqDd_ok h1 h2 e, postE_fz sub q rfl⟩
variable {k : Nat}
theorem de_eqT (B : Bk c X k) (ha : DE c X a fa) (hb : DE c X b fb) : DE c X (.Compare a [.Eq] [b] pos) (eOp gEqT fa fb) := de_cmp (op_eqT B.hr.units) pr_eqT ha hb (nomark _)
theorem dt_dnin {j : Nat} {k0 o : Expr} (B : Bk c X j) (hk : DE c X k0 g) (hd : DE c X o fd) (h1 : behindInMarks .NotIn o = false := by first | exact nobehind _ (by decide) (by decide) | rfl) : DT c X (.Compare k0 [.NotIn] [o] pos) (tOf (eDIn true g fd)) := by
  obtain ⟨t, p, s⟩ := hd.ex
  obtain ⟨t2, p2, s2⟩ := hk.ex
  have hu : X.A.units + 1 < cLine := by have := B.hr.un; omega
  exact ⟨tB (tDNotIn t2 t), pt_cmp (pc_dnotin hu p2 p) h1, so_test (so_din true s2 s)⟩
end DL
section
open PySem PySem.Spec PyProof.Rows L2 DL
namespace Row
def top (i : Nat) : Stmt := PySem.Challenge.pw_sumcraft_k51_pairs_added_and_multiplied.main.body.getD i (.Pass ⟨0, 0, 0, 0⟩)
def csub (s : Stmt) (j : Nat) : Stmt := match s with
  | .ClassDef _ _ _ b _ _ _ _ _ _ _ => b.getD j (.Pass ⟨0, 0, 0, 0⟩)
  | _ => .Pass ⟨0, 0, 0, 0⟩
abbrev FnP (K : PySem.W.Frag) (x : Str) (st : Stmt) (f : Addr) (fd : FuncData) : Prop := FunD K x x (defArgs st) (defBody st) (defScope st) [] [] f fd
abbrev s__law_no_noughts : Stmt := top 11
abbrev N__law_no_noughts : List Str := ["_law_some", "_law_found", "_law_powers_here", "_law_number_here"]
theorem sc__law_no_noughts : FnScope N__law_no_noughts ["_law_some"] (defScope s__law_no_noughts) := ⟨rfl, rfl, rfl, by decide +kernel, rfl, by decide +kernel, by decide +kernel⟩
abbrev s__law_number : Stmt := top 7
abbrev N__law_number : List Str := ["_law_cell", "_law_most"]
theorem sc__law_number : FnScope N__law_number ["_law_cell", "_law_most"] (defScope s__law_number) := ⟨rfl, rfl, rfl, by decide +kernel, rfl, by decide +kernel, by decide +kernel⟩
abbrev s__law_cell_at : Stmt := top 6
abbrev N__law_cell_at : List Str := ["_law_script", "_law_k"]
theorem sc__law_cell_at : FnScope N__law_cell_at ["_law_script", "_law_k"] (defScope s__law_cell_at) := ⟨rfl, rfl, rfl, by decide +kernel, rfl, by decide +kernel, by decide +kernel⟩
abbrev s_without_noughts : Stmt := top 1
abbrev N_without_noughts : List Str := ["one", "found", "powers", "number"]
theorem sc_without_noughts : FnScope N_without_noughts ["one"] (defScope s_without_noughts) := ⟨rfl, rfl, rfl, by decide +kernel, rfl, by decide +kernel, by decide +kernel⟩
abbrev s__law_whole : Stmt := top 8
abbrev N__law_whole : List Str := ["_law_found"]
theorem sc__law_whole : FnScope N__law_whole ["_law_found"] (defScope s__law_whole) := ⟨rfl, rfl, rfl, by decide +kernel, rfl, by decide +kernel, by decide +kernel⟩
abbrev s__law_mixed : Stmt := top 9
abbrev N__law_mixed : List Str := ["_law_cell", "_law_k", "_law_number_here", "_law_time"]
theorem sc__law_mixed : FnScope N__law_mixed ["_law_cell", "_law_k"] (defScope s__law_mixed) := ⟨rfl, rfl, rfl, by decide +kernel, rfl, by decide +kernel, by decide +kernel⟩
abbrev s_pair_times : Stmt := top 3
abbrev N_pair_times : List Str := ["one", "other", "found", "left", "a", "right", "b", "powers"]
theorem sc_pair_times : FnScope N_pair_times ["one", "other"] (defScope s_pair_times) := ⟨rfl, rfl, rfl, by decide +kernel, rfl, by decide +kernel, by decide +kernel⟩
abbrev s__law_product : Stmt := top 15
abbrev N__law_product : List Str := ["_law_one", "_law_other", "_law_found", "_law_right", "_law_b", "_law_left", "_law_a", "_law_powers_here"]
theorem sc__law_product : FnScope N__law_product ["_law_one", "_law_other"] (defScope s__law_product) := ⟨rfl, rfl, rfl, by decide +kernel, rfl, by decide +kernel, by decide +kernel⟩
abbrev s_pair_plus : Stmt := top 2
abbrev N_pair_plus : List Str := ["one", "other", "found", "powers", "number"]
theorem sc_pair_plus : FnScope N_pair_plus ["one", "other"] (defScope s_pair_plus) := ⟨rfl, rfl, rfl, by decide +kernel, rfl, by decide +kernel, by decide +kernel⟩
abbrev s__law_is_pair : Stmt := top 12
abbrev N__law_is_pair : List Str := ["_law_found", "_law_due", "_law_powers_here", "_law_number_here"]
theorem sc__law_is_pair : FnScope N__law_is_pair ["_law_found", "_law_due"] (defScope s__law_is_pair) := ⟨rfl, rfl, rfl, by decide +kernel, rfl, by decide +kernel, by decide +kernel⟩
abbrev s__law_sum : Stmt := top 14
abbrev N__law_sum : List Str := ["_law_one", "_law_other", "_law_found", "_law_some", "_law_powers_here", "_law_number_here"]
theorem sc__law_sum : FnScope N__law_sum ["_law_one", "_law_other"] (defScope s__law_sum) := ⟨rfl, rfl, rfl, by decide +kernel, rfl, by decide +kernel, by decide +kernel⟩
abbrev s_pair_of_form : Stmt := top 4
abbrev N_pair_of_form : List Str := ["form"]
theorem sc_pair_of_form : FnScope N_pair_of_form ["form"] (defScope s_pair_of_form) := ⟨rfl, rfl, rfl, by decide +kernel, rfl, by decide +kernel, by decide +kernel⟩
abbrev s__law_powers : Stmt := top 10
abbrev N__law_powers : List Str := ["_law_cell", "_law_number_here"]
theorem sc__law_powers : FnScope N__law_powers ["_law_cell"] (defScope s__law_powers) := ⟨rfl, rfl, rfl, by decide +kernel, rfl, by decide +kernel, by decide +kernel⟩
abbrev s__law_two : Stmt := top 13
abbrev N__law_two : List Str := ["_law_script", "_law_both", "_law_k", "_law_powers_here", "_law_number_here", "_law_at"]
theorem sc__law_two : FnScope N__law_two ["_law_script"] (defScope s__law_two) := ⟨rfl, rfl, rfl, by decide +kernel, rfl, by decide +kernel, by decide +kernel⟩
abbrev s__law_form : Stmt := top 16
abbrev N__law_form : List Str := ["_law_script", "_law_form_here", "_law_due", "_law_k"]
theorem sc__law_form : FnScope N__law_form ["_law_script"] (defScope s__law_form) := ⟨rfl, rfl, rfl, by decide +kernel, rfl, by decide +kernel, by decide +kernel⟩
abbrev s_law : Stmt := top 17
abbrev N_law : List Str := ["_law_script", "_law_both", "_law_handed", "_law_k", "_law_told", "_law_due"]
theorem sc_law : FnScope N_law ["_law_script"] (defScope s_law) := ⟨rfl, rfl, rfl, by decide +kernel, rfl, by decide +kernel, by decide +kernel⟩
def d__law_no_noughts : He.DefD := ⟨("_law_no_noughts", none), "_law_no_noughts", "_law_no_noughts", defArgs s__law_no_noughts, defBody s__law_no_noughts, defScope s__law_no_noughts, [], []⟩
def d__law_number : He.DefD := ⟨("_law_number", none), "_law_number", "_law_number", defArgs s__law_number, defBody s__law_number, defScope s__law_number, [], []⟩
def d__law_cell_at : He.DefD := ⟨("_law_cell_at", none), "_law_cell_at", "_law_cell_at", defArgs s__law_cell_at, defBody s__law_cell_at, defScope s__law_cell_at, [], []⟩
def d_without_noughts : He.DefD := ⟨("without_noughts", none), "without_noughts", "without_noughts", defArgs s_without_noughts, defBody s_without_noughts, defScope s_without_noughts, [], []⟩
def d__law_whole : He.DefD := ⟨("_law_whole", none), "_law_whole", "_law_whole", defArgs s__law_whole, defBody s__law_whole, defScope s__law_whole, [], []⟩
def d__law_mixed : He.DefD := ⟨("_law_mixed", none), "_law_mixed", "_law_mixed", defArgs s__law_mixed, defBody s__law_mixed, defScope s__law_mixed, [], []⟩
def d_pair_times : He.DefD := ⟨("pair_times", none), "pair_times", "pair_times", defArgs s_pair_times, defBody s_pair_times, defScope s_pair_times, [], []⟩
def d__law_product : He.DefD := ⟨("_law_product", none), "_law_product", "_law_product", defArgs s__law_product, defBody s__law_product, defScope s__law_product, [], []⟩
def d_pair_plus : He.DefD := ⟨("pair_plus", none), "pair_plus", "pair_plus", defArgs s_pair_plus, defBody s_pair_plus, defScope s_pair_plus, [], []⟩
def d__law_is_pair : He.DefD := ⟨("_law_is_pair", none), "_law_is_pair", "_law_is_pair", defArgs s__law_is_pair, defBody s__law_is_pair, defScope s__law_is_pair, [], []⟩
def d__law_sum : He.DefD := ⟨("_law_sum", none), "_law_sum", "_law_sum", defArgs s__law_sum, defBody s__law_sum, defScope s__law_sum, [], []⟩
def d_pair_of_form : He.DefD := ⟨("pair_of_form", none), "pair_of_form", "pair_of_form", defArgs s_pair_of_form, defBody s_pair_of_form, defScope s_pair_of_form, [], []⟩
def d__law_powers : He.DefD := ⟨("_law_powers", none), "_law_powers", "_law_powers", defArgs s__law_powers, defBody s__law_powers, defScope s__law_powers, [], []⟩
def d__law_two : He.DefD := ⟨("_law_two", none), "_law_two", "_law_two", defArgs s__law_two, defBody s__law_two, defScope s__law_two, [], []⟩
def d__law_form : He.DefD := ⟨("_law_form", none), "_law_form", "_law_form", defArgs s__law_form, defBody s__law_form, defScope s__law_form, [], []⟩
def d_law : He.DefD := ⟨("law", none), "law", "law", defArgs s_law, defBody s_law, defScope s_law, [], []⟩
def fn : List He.DefD := [d__law_no_noughts, d__law_number, d__law_cell_at, d_without_noughts, d__law_whole, d__law_mixed, d_pair_times, d__law_product, d_pair_plus, d__law_is_pair, d__law_sum, d_pair_of_form, d__law_powers, d__law_two, d__law_form, d_law]
def fa : List He.Fa := [.glo "_law_no_noughts", .glo "_law_number", .glo "_law_cell_at", .glo "without_noughts", .glo "_law_whole", .glo "_law_mixed", .glo "pair_times", .glo "_law_product", .glo "pair_plus", .glo "_law_is_pair", .glo "_law_sum", .glo "pair_of_form", .glo "_law_powers", .glo "_law_two", .glo "_law_form", .glo "law", .free "abs", .free "bool", .free "dict", .free "int", .free "isinstance", .free "len", .free "list", .free "min", .free "range", .free "tuple"]
def exL (K : PySem.W.Frag) : List Bool := []
def ex (K : PySem.W.Frag) : Bool := (exL K).all id
theorem ex_at {K : PySem.W.Frag} (h : ex K = true) (i : Nat) {b : Bool} (e : (exL K)[i]? = some b) : b = true := List.all_eq_true.mp h b (List.mem_of_getElem? e)
abbrev R : PySem.W.OpenRow := PySem.W.OpenLaw.row PySem.Challenge.rw_sumcraft_k51_pairs_added_and_multiplied
abbrev hk : PySem.W.Hook := DL.hookY 4 fa fn ex
def ob (s : PySem.W.SharedT) : DL.AlY := DL.obsY 4 fa fn ex (HandSHeadRun.getT s)
theorem ob_eq (s : PySem.W.SharedT) : ob s = hk.obs s.abs := DL.obsY_eq (HandSHeadRun.getT_eq s)
def loose : List Str := ["without_noughts", "pair_plus", "pair_times", "pair_of_form", "_law_cell_at", "_law_number", "_law_whole", "_law_mixed", "_law_powers", "_law_no_noughts", "_law_is_pair", "_law_two", "_law_sum", "_law_product", "_law_form"]
theorem run (w : World) : HandSHeadRun.RunEq R (PySem.W.view R.prog [17]) hk ob 6000 loose w := by
  intro os
  kernel_rfl
end Row
end
noncomputable section
open DL
open L2 (atI ixN)
theorem absI_eq (a : Int) : (if a < 0 then -a else a) = (a.natAbs : Int) := by split <;> omega
theorem lt_up {a m n : Nat} (h : a < 2 ^ m) (hm : m ≤ n) : a < 2 ^ n := Nat.lt_of_lt_of_le h (Nat.pow_le_pow_right (by omega) hm)
def dIs : List D → Option (List Int)
  | [] => some []
  | .int i :: r => (dIs r).map (i :: ·)
  | _ => none
def oIs : List O → Option (List Int)
  | [] => some []
  | .fz (.int i) :: r => (oIs r).map (i :: ·)
  | _ => none
def asIL : O → Option (List Int)
  | .ls os => oIs os
  | .fz (.lst ds) => dIs ds
  | _ => none
abbrev lD (xs : List Int) : D := .lst (xs.map .int)
abbrev lO (xs : List Int) : O := .fz (.lst (xs.map .int))
abbrev nO (xs : List Int) : O := .ls (iL xs)
theorem dIs_eq : ∀ {ds : List D} {xs : List Int}, dIs ds = some xs → ds = xs.map .int
  | [], xs, h => by cases h; rfl
  | d :: r, xs, h => by
    cases d with
    | int i =>
      cases e : dIs r with
      | none => simp [dIs, e] at h
      | some ys =>
        have h' : i :: ys = xs := by simpa [dIs, e] using h
        rw [← h', dIs_eq e]; rfl
    | _ => simp [dIs] at h
theorem oIs_eq : ∀ {os : List O} {xs : List Int}, oIs os = some xs → os = iL xs
  | [], xs, h => by cases h; rfl
  | o :: r, xs, h => by
    cases o with
    | ls _ => simp [oIs] at h
    | tp _ => simp [oIs] at h
    | ob _ _ _ => simp [oIs] at h
    | dt _ _ => simp [oIs] at h
    | dk _ _ => simp [oIs] at h
    | gh _ _ _ => simp [oIs] at h
    | fz d =>
      cases d with
      | int i =>
        cases e : oIs r with
        | none => simp [oIs, e] at h
        | some ys =>
          have h' : i :: ys = xs := by simpa [oIs, e] using h
          rw [← h', oIs_eq e]; rfl
      | _ => simp [oIs] at h
@[simp] theorem dIs_map (xs : List Int) : dIs (xs.map .int) = some xs := by induction xs with
  | nil => rfl
  | cons x xs ih => simp [dIs, ih]
@[simp] theorem oIs_iL (xs : List Int) : oIs (iL xs) = some xs := by induction xs with
  | nil => rfl
  | cons x xs ih => simp [oIs, iL] at ih ⊢; rw [ih]
@[simp] theorem asIL_ls (xs : List Int) : asIL (.ls (iL xs)) = some xs := oIs_iL xs
@[simp] theorem asIL_lst (xs : List Int) : asIL (.fz (.lst (xs.map .int))) = some xs := dIs_map xs
@[simp] theorem asIL_lD (xs : List Int) : asIL (.fz (lD xs)) = some xs := dIs_map xs
@[simp] theorem asIL_nil : asIL (.fz (.lst [])) = some [] := (rfl)
@[simp] theorem asIL_nil2 : asIL (.ls []) = some [] := (rfl)
theorem asIL_cases {o : O} {xs : List Int} (h : asIL o = some xs) : o = nO xs ∨ o = lO xs := by
  cases o with
  | ls os => left; rw [oIs_eq (show oIs os = some xs from h)]
  | tp os => simp [asIL] at h
  | ob _ _ _ => simp [asIL] at h
  | dt _ _ => simp [asIL] at h
  | dk _ _ => simp [asIL] at h
  | gh _ _ _ => simp [asIL] at h
  | fz d =>
    cases d with
    | lst ds => right; rw [dIs_eq (show dIs ds = some xs from h)]
    | _ => simp [asIL] at h
@[simp] theorem see_a (w : Bool) (o : O) : (see w o).a = o := by
  cases o with
  | fz d => rfl
  | ls os => cases w <;> rfl
  | tp os => cases w <;> rfl
  | ob _ _ _ => cases w <;> rfl
  | dt _ _ => cases w <;> rfl
  | dk _ _ => cases w <;> rfl
  | gh _ _ _ => cases w <;> rfl
theorem asIL_items {o : O} {xs : List Int} (h : asIL o = some xs) : items o = some (iL xs) := by
  rcases asIL_cases h with rfl | rfl
  · rfl
  · exact items_int xs
theorem ixO_IL {o : O} {xs : List Int} (h : asIL o = some xs) (k : Int) : ixO o k = atI (iL xs) k := by
  have hi := asIL_items h
  rcases asIL_cases h with rfl | rfl
  · rfl
  · show (items (lO xs)).bind (fun os => atI os k) = _
    rw [hi]; rfl
theorem atI_iL {xs : List Int} {i : Nat} {k : Int} (hk : k = (i : Int)) (h : i < xs.length) : atI (iL xs) k = some (I xs[i]) := by
  refine atI_ok (by omega) ?_
  rw [show k.toNat = i by omega]; exact iL_get h
theorem ix_at {f g : FE} {r : Env} {x : R} {xs : List Int} {k : Int} {v : Int} (h1 : f r = .ok x) (hx : asIL x.a = some xs) (h2 : g r = .ok (.nw (I k))) (h : atI (iL xs) k = some (I v)) : eIx f g r = .ok (.nw (I v)) := by
  cases x with
  | nw o =>
    have e := ixO_IL hx k
    rw [h] at e
    have e' : ixO (.fz (er o)) k = some (I v) := e
    simp [eIx, h1, h2, e']
  | vw o =>
    have e : ixO o k = _ := ixO_IL hx k
    rw [h] at e
    simp [eIx, h1, h2, e]
  | bw o =>
    have e : ixO o k = _ := ixO_IL hx k
    rw [h] at e
    simp [eIx, h1, h2, e]
theorem ix_IL {f g : FE} {r : Env} {x : R} {xs : List Int} {i : Nat} {k : Int} (h1 : f r = .ok x) (hx : asIL x.a = some xs) (h2 : g r = .ok (.nw (I k))) (hk : k = (i : Int)) (h : i < xs.length) : eIx f g r = .ok (.nw (I xs[i])) :=
  ix_at h1 hx h2 (atI_iL hk h)
theorem var_of {i : Nat} {r : Env} {w : Bool} {o : O} (h : r[i]? = some (.vl w o)) : eVar i r = .ok (see w o) := eVar_of h
theorem call1 {M : List O → Res O} {f : FE} {r : Env} {x : R} {o : O} (h : f r = .ok x) (hm : M [x.a] = .ok o) : eCall M (aCons f aNil) r = .ok (.nw o) := by
  rw [eCall_ev, aCons_ev, h]; simp [hm]
theorem call2 {M : List O → Res O} {f g : FE} {r : Env} {x y : R} {o : O} (h : f r = .ok x) (h2 : g r = .ok y) (hm : M [x.a, y.a] = .ok o) : eCall M (aCons f (aCons g aNil)) r = .ok (.nw o) := by
  rw [eCall_ev, aCons_ev, h, aCons_ev, h2]; simp [hm]
theorem b1 {g : List O → Res R} {f : FE} {r : Env} {x : R} (h : f r = .ok x) : eB g (aCons f aNil) r = g [x.a] := by
  rw [eB_ev, aCons_ev, h]; simp
theorem b2 {g : List O → Res R} {f k : FE} {r : Env} {x y : R} (h : f r = .ok x) (h2 : k r = .ok y) : eB g (aCons f (aCons k aNil)) r = g [x.a, y.a] := by
  rw [eB_ev, aCons_ev, h, aCons_ev, h2]; simp
theorem op_of {g : O → O → Res R} {f k : FE} {r : Env} {x y : R} (h : f r = .ok x) (h2 : k r = .ok y) : eOp g f k r = g x.a y.a := by
  rw [eOp_ev, h, h2]; simp
theorem bF {f : FE} {r : Env} (h : f r = .ok (.nw (.fz (.bl true)))) : tNotD (tOf f) r = .ok false := tNot_ok (tOf_ok h)
theorem or_ff {f g : Env → Res Bool} {r : Env} (h : f r = .ok false) (h2 : g r = .ok false) : tOrD f g r = .ok false := by simp [h, h2]
theorem and_f {f g : Env → Res Bool} {r : Env} (h : f r = .ok false) : tAndD f g r = .ok false := by simp [h]
theorem and_t {f g : Env → Res Bool} {r : Env} {b : Bool} (h : f r = .ok true) (h2 : g r = .ok b) : tAndD f g r = .ok b := by simp [h, h2]
theorem er_nO (xs : List Int) : er (nO xs) = lD xs := by simp [ers_iL]
theorem put_nO (xs : List Int) : put false (.nw (nO xs)) = some (.vl true (lO xs)) := by rw [put_nwF, er_nO]
theorem for_gen {fg : FG} {F : FS} {g : Nat → R} {n : Nat} {r : Env} (P : Nat → Env → Prop) (h0 : P 0 r) (step : ∀ (i : Nat) (r : Env), i < n → P i r → ∃ r1 r', fg (g i) r = some r1 ∧ F r1 = .nx r' ∧ P (i + 1) r') : ∃ r', forL fg F ((List.range n).map g) r = .nx r' ∧ P n r' := by
  obtain ⟨r', h1, h2⟩ := forL_inv (fg := fg) (F := F) (its := (List.range n).map g) (r := r) P h0 (fun i x r hx hp => by
    have hi : i < n := by
      have := (List.getElem?_eq_some_iff.mp hx).1
      simpa using this
    simp [hi] at hx
    subst hx
    exact step i r hi hp)
  exact ⟨r', h1, by simpa using h2⟩
theorem lc_gen {fg : FG} {f : FE} {r : Env} {g : Nat → R} {v : Nat → O} : ∀ (l : List Nat) (acc : List O), (∀ i ∈ l, ∃ r1, fg (g i) r = some r1 ∧ f r1 = .ok (.nw (v i))) → acc.length + l.length ≤ 100000 → lcL fg tYesD f r (l.map g) acc = .ok (.nw (.ls (acc ++ l.map v)))
  | [], acc, _, _ => by simp [lcL]
  | i :: l, acc, h, hl => by
    obtain ⟨r1, e1, e2⟩ := h i List.mem_cons_self
    simp only [List.length_cons] at hl
    have ih := lc_gen (fg := fg) (f := f) (r := r) (g := g) (v := v) l (acc ++ [v i]) (fun j hj => h j (List.mem_cons_of_mem _ hj)) (by simp; omega)
    simp only [List.map_cons]
    unfold lcL
    simp only [e1, e2, tYes_ev, newO]
    rw [if_pos (by omega), ih]
    simp
theorem lcD_gen {fi : Env → Res (List R)} {fg : FG} {vs : List Nat} {f : FE} {r : Env} {g : Nat → R} {v : Nat → O} {n : Nat} (hi : fi r = .ok ((List.range n).map g)) (hv : vs.all (· < r.length) = true) (h : ∀ i, i < n → ∃ r1, fg (g i) (wipeE r vs) = some r1 ∧ f r1 = .ok (.nw (v i))) (hn : n ≤ 100000) :
    eLcD fi fg vs tYesD f r = .ok (.nw (.ls ((List.range n).map v))) := by
  simp only [eLcD, hi, res_ok, hv, if_true]
  rw [lc_gen (v := v) (List.range n) [] (fun i hi => h i (by simpa using hi)) (by simpa using hn)]
  simp
theorem rngL_eq (n : Nat) : rngL 0 n = (List.range n).map fun (k : Nat) => intR (k : Int) := by
  unfold rngL
  refine List.map_congr_left fun k _ => ?_
  rw [Int.zero_add]
theorem rng_ok {fs : Env → Res (List O)} {r : Env} {n : Nat} (h : fs r = .ok [I n]) (hn : n ≤ 1000000) : iRng rng1 fs r = .ok ((List.range n).map fun (k : Nat) => intR (k : Int)) := by
  rw [iRng_ev, h, res_ok, rng1_ok (by omega) (by omega), Int.toNat_natCast, rngL_eq]
def co (xs : List Int) (k : Nat) : Int := xs.getD k 0
@[simp] theorem co_nil (k : Nat) : co [] k = 0 := by simp [co]
@[simp] theorem co_zero (x : Int) (xs : List Int) : co (x :: xs) 0 = x := by simp [co]
@[simp] theorem co_succ (x : Int) (xs : List Int) (k : Nat) : co (x :: xs) (k + 1) = co xs k := by simp [co]
theorem ix_fl {i j : Nat} {k : Int} {w : Bool} {g : FE} {r : Env} {ds : List D} {d : D} (h : r[i]? = some (.vl w (.fz (.lst ds)))) (h2 : g r = .ok (.nw (I k))) (hk : k = (j : Int)) (hd : ds[j]? = some d) : eIx (eVar i) g r = .ok (.nw (.fz d)) := by
  have e : ixO (.fz (.lst ds)) k = some (.fz d) := by
    show atI (ds.map O.fz) k = _
    exact atI_ok (by omega) (by rw [show k.toNat = j by omega]; simp [hd])
  exact ix_nw (var_of h) h2 e
def BL (b : Nat) (xs : List Int) : Prop := ∀ x ∈ xs, x.natAbs < 2 ^ b
theorem BL.up {b d : Nat} {xs : List Int} (h : BL b xs) (hd : b ≤ d) : BL d xs := fun y hy => lt_up (h y hy) hd
def cellAt (ns : List Int) (k : Int) : Int := ns.getD k.toNat 0
def M__law_cell_at : List O → Res O
  | [.fz (.scr ns), .fz (.int k)] => if 0 ≤ k then .ok (I (cellAt ns k)) else .bad
  | _ => .bad
def lawNumM (cc m : Int) : Int := if cc.fmod 3 = 0 then (cc.fdiv 3).fmod (2 * m - 1) - m + 1 else if cc.fmod 3 = 1 then (cc.fdiv 3).fmod 2001 - 1000 else (cc.fdiv 3).fmod 5 - 2
theorem lawNumM_lt (i : Int) {m : Int} (hm : 1000 < m) : (lawNumM i m).natAbs < m.natAbs := by
  unfold lawNumM
  split
  · have h1 := Int.fmod_nonneg_of_pos (i.fdiv 3) (show (0 : Int) < 2 * m - 1 by omega)
    have h2 := Int.fmod_lt_of_pos (i.fdiv 3) (show (0 : Int) < 2 * m - 1 by omega)
    omega
  · split
    · have h1 := Int.fmod_nonneg_of_pos (i.fdiv 3) (show (0 : Int) < 2001 by omega)
      have h2 := Int.fmod_lt_of_pos (i.fdiv 3) (show (0 : Int) < 2001 by omega)
      omega
    · have h1 := Int.fmod_nonneg_of_pos (i.fdiv 3) (show (0 : Int) < 5 by omega)
      have h2 := Int.fmod_lt_of_pos (i.fdiv 3) (show (0 : Int) < 5 by omega)
      omega
def M__law_number : List O → Res O
  | [.fz (.int i), .fz (.int m)] => if 1000 < m ∧ m < 2 ^ 300 then .ok (.fz (.int (lawNumM i m))) else .bad
  | _ => .bad
def M__law_whole : List O → Res O
  | [.fz (.int _)] => .ok (.fz (.bl true))
  | _ => .bad
theorem num_ok {i m : Int} (h : 1000 < m) (h2 : m < 2 ^ 300) : M__law_number [I i, I m] = .ok (I (lawNumM i m)) := if_pos ⟨h, h2⟩
theorem p60 : (1000 : Int) < 10 ^ 60 ∧ (10 : Int) ^ 60 < 2 ^ 300 := by constructor <;> decide
theorem e60 (r : Env) : eOp gPow (eC (.int 10)) (eC (.int 60)) r = .ok (.nw (I (10 ^ 60))) := rfl
theorem num60_lt (i : Int) : (lawNumM i (10 ^ 60)).natAbs < 2 ^ 200 := Nat.lt_trans (lawNumM_lt _ p60.1) (by decide)
theorem cell_ok (ns : List Int) {k : Int} (h : 0 ≤ k) : M__law_cell_at [.fz (.scr ns), I k] = .ok (I (cellAt ns k)) := if_pos h
abbrev U : S := .un
abbrev scrS (ns : List Int) : S := .vl false (.fz (.scr ns))
theorem cell_e {ns : List Int} {r : Env} {f : FE} {k : Int} (h : 0 ≤ k) (hf : f (scrS ns :: r) = .ok (.nw (I k))) : eCall M__law_cell_at (aCons (eVar 0) (aCons f aNil)) (scrS ns :: r) = .ok (.nw (I (cellAt ns k))) :=
  call2 (x := .nw (.fz (.scr ns))) (y := .nw (I k)) rfl hf (cell_ok ns h)
theorem e_mod {f : FE} {r : Env} {a b : Int} (h : f r = .ok (.nw (I a))) (hb : b ≠ 0) : eOp gMod f (eC (.int b)) r = .ok (.nw (I (a.fmod b))) := by
  rw [op_of h (eC_ev _)]; exact gMod_ev hb
theorem e_div {f : FE} {r : Env} {a b : Int} (h : f r = .ok (.nw (I a))) (hb : 0 < b) (h2 : b < 1073741824) : eOp gDiv f (eC (.int b)) r = .ok (.nw (I (a.fdiv b))) := by
  rw [op_of h (eC_ev _)]; exact gDiv_pos hb h2
theorem e_add {f g : FE} {r : Env} {a b : Int} (h : f r = .ok (.nw (I a))) (h2 : g r = .ok (.nw (I b))) : eOp gAddA f g r = .ok (.nw (I (a + b))) := by
  rw [op_of h h2]; rfl
theorem e_sub {f g : FE} {r : Env} {a b : Int} (h : f r = .ok (.nw (I a))) (h2 : g r = .ok (.nw (I b))) : eOp gSub f g r = .ok (.nw (I (a - b))) := by
  rw [op_of h h2]; rfl
theorem t_eq {f g : FE} {r : Env} {a b : Int} (h : f r = .ok (.nw (I a))) (h2 : g r = .ok (.nw (I b))) : tOf (eOp gEq f g) r = .ok (decide (a = b)) := by
  rw [tOf_ev, op_of h h2]; rfl
theorem t_ne {f g : FE} {r : Env} {a b : Int} (h : f r = .ok (.nw (I a))) (h2 : g r = .ok (.nw (I b))) : tOf (eOp gNe f g) r = .ok (!decide (a = b)) := by
  rw [tOf_ev, op_of h h2]; rfl
theorem t_gt {f g : FE} {r : Env} {a b : Int} (h : f r = .ok (.nw (I a))) (h2 : g r = .ok (.nw (I b))) : tOf (eOp gGt f g) r = .ok (decide (b < a)) := by
  rw [tOf_ev, op_of h h2]; rfl
theorem fmod_rg {a b : Int} (h : 0 < b) : 0 ≤ a.fmod b ∧ a.fmod b < b := ⟨Int.fmod_nonneg_of_pos a h, Int.fmod_lt_of_pos a h⟩
noncomputable def B__law_no_noughts : FS := (sSeq (sSet 1 true eDNew) (sSeq (sForDI 0 2 3 (sIf (tOf (eOp gNe (eVar 3) (eC (.int 0)))) (sDPutL 1 (eVar 3) (eVar 2)) sNil)) (sRetV 1)))
noncomputable abbrev M__law_no_noughts : List O → Res O := runF 4 B__law_no_noughts
noncomputable def B__law_number : FS := (sSeq (sIf (tOf (eOp gEq (eOp gMod (eVar 0) (eC (.int 3))) (eC (.int 0)))) (sRet (eOp gAddA (eOp gSub (eOp gMod (eOp gDiv (eVar 0) (eC (.int 3))) (eOp gSub (eOp gMulA (eC (.int 2)) (eVar 1)) (eC (.int 1)))) (eVar 1)) (eC (.int 1)))) sNil) (sSeq (sIf (tOf (eOp gEq (eOp gMod (eVar 0) (eC (.int 3))) (eC (.int 1)))) (sRet (eOp gSub (eOp gMod (eOp gDiv (eVar 0) (eC (.int 3))) (eC (.int 2001))) (eC (.int 1000)))) sNil) (sRet (eOp gSub (eOp gMod (eOp gDiv (eVar 0) (eC (.int 3))) (eC (.int 5))) (eC (.int 2))))))
noncomputable def B__law_cell_at : FS := (sSeq (sIf (tOf (eOp gLt (eVar 1) (eB gLen (aCons (eVar 0) aNil)))) (sRet (eIx (eVar 0) (eVar 1))) sNil) (sRet (eC (.int 0))))
noncomputable def B_without_noughts : FS := (sSeq (sSet 1 true eDNew) (sSeq (sForDI 0 2 3 (sIf (tOf (eOp gNe (eVar 3) (eC (.int 0)))) (sDPutL 1 (eVar 3) (eVar 2)) sNil)) (sRetV 1)))
noncomputable abbrev M_without_noughts : List O → Res O := runF 4 B_without_noughts
noncomputable def B__law_whole : FS := (sRet (eAnd (eIsi .int (eVar 0)) (eNot (eIsi .bl (eVar 0)))))
noncomputable def B__law_mixed : FS := (sSeq (sIf (tOf (eOp gEq (eOp gMod (eVar 0) (eC (.int 2))) (eC (.int 0)))) (sSeq (sSet 2 false (eOp gDiv (eB gAbs (aCons (eVar 0) aNil)) (eC (.int 2)))) (sSeq (sFor (iRng rng1 (aCons (eVar 1) aNil)) (gN 3) (sSet 2 false (eOp gDiv (eVar 2) (eOp gPow (eC (.int 10)) (eC (.int 12)))))) (sRet (eVar 2)))) sNil) (sSeq (sSet 2 false (eOp gMod (eOp gAddA (eVar 0) (eOp gMulA (eC (.int 7919)) (eVar 1))) (eC (.int 2147483629)))) (sSeq (sSet 2 false (eOp gMod (eOp gAddA (eOp gAddA (eOp gMulA (eVar 2) (eVar 2)) (eOp gMulA (eC (.int 16807)) (eVar 2))) (eVar 1)) (eC (.int 2147483629)))) (sRet (eOp gMod (eOp gMulA (eVar 2) (eVar 2)) (eC (.int 2147483587)))))))
noncomputable abbrev M__law_mixed : List O → Res O := runF 4 B__law_mixed
noncomputable def B_pair_times : FS := (sSeq (sSet 2 true eDNew) (sSeq (sForDI 0 3 4 (sForDI 1 5 6 (sSeq (sSet 7 false (eTup (aCons (eOp gAddA (eIx (eVar 3) (eC (.int 0))) (eIx (eVar 5) (eC (.int 0)))) (aCons (eOp gAddA (eIx (eVar 3) (eC (.int 1))) (eIx (eVar 5) (eC (.int 1)))) aNil)))) (sDPutL 2 (eOp gAddA (eDGet2 2 (eVar 7) 0) (eOp gMulA (eVar 4) (eVar 6))) (eVar 7))))) (sRet (eCall M_without_noughts (aCons (eVar 2) aNil)))))
noncomputable abbrev M_pair_times : List O → Res O := runF 8 B_pair_times
noncomputable def B__law_product : FS := (sSeq (sSet 2 true eDNew) (sSeq (sForDI 1 3 4 (sForDI 0 5 6 (sSeq (sSet 7 false (eTup (aCons (eOp gAddA (eIx (eVar 3) (eC (.int 0))) (eIx (eVar 5) (eC (.int 0)))) (aCons (eOp gAddA (eIx (eVar 3) (eC (.int 1))) (eIx (eVar 5) (eC (.int 1)))) aNil)))) (sDPutL 2 (eOp gAddA (eDGet2 2 (eVar 7) 0) (eOp gMulA (eVar 4) (eVar 6))) (eVar 7))))) (sRet (eCall M__law_no_noughts (aCons (eVar 2) aNil)))))
noncomputable abbrev M__law_product : List O → Res O := runF 8 B__law_product
noncomputable def B_pair_plus : FS := (sSeq (sSet 2 true (eDCopy (eVar 0))) (sSeq (sForDI 1 3 4 (sDPutL 2 (eOp gAddA (eDGet2 2 (eVar 3) 0) (eVar 4)) (eVar 3))) (sRet (eCall M_without_noughts (aCons (eVar 2) aNil)))))
noncomputable abbrev M_pair_plus : List O → Res O := runF 5 B_pair_plus
noncomputable def B__law_is_pair : FS := (sSeq (sIf (tOrD (tNotD (tOf (eIsD (eVar 0)))) (tOf (eOp gNe (eDLen (eVar 0)) (eDLen (eVar 1))))) (sRet (eC (.bl false))) sNil) (sSeq (sForDI 0 2 3 (sSeq (sIf (tOrD (tNotD (tOf (eIsi .tup (eVar 2)))) (tOrD (tOf (eOp gNe (eB gLen (aCons (eVar 2) aNil)) (eC (.int 2)))) (tOf (eDIn true (eVar 2) (eVar 1))))) (sRet (eC (.bl false))) sNil) (sSeq (sIf (tOrD (tNotD (tOf (eCall M__law_whole (aCons (eIx (eVar 2) (eC (.int 0))) aNil)))) (tNotD (tOf (eCall M__law_whole (aCons (eIx (eVar 2) (eC (.int 1))) aNil))))) (sRet (eC (.bl false))) sNil) (sIf (tOrD (tNotD (tOf (eCall M__law_whole (aCons (eVar 3) aNil)))) (tOf (eOp gNe (eVar 3) (eDIx (eVar 1) (eVar 2))))) (sRet (eC (.bl false))) sNil)))) (sRet (eC (.bl true)))))
noncomputable abbrev M__law_is_pair : List O → Res O := runF 4 B__law_is_pair
noncomputable def B__law_sum : FS := (sSeq (sSet 2 true eDNew) (sSeq (sFor (iLst (eLst (aCons (eVar 1) (aCons (eVar 0) aNil)))) (gN 3) (sForDI 3 4 5 (sDPutL 2 (eOp gAddA (eDGet2 2 (eVar 4) 0) (eVar 5)) (eVar 4)))) (sRet (eCall M__law_no_noughts (aCons (eVar 2) aNil)))))
noncomputable abbrev M__law_sum : List O → Res O := runF 6 B__law_sum
noncomputable def B_pair_of_form : FS := (sRet (eCall M_without_noughts (aCons (eDspT (((eTup (aCons (eC (.int 1)) (aCons (eC (.int 0)) aNil))), (eIx (eVar 0) (eC (.int 0)))) :: (((eTup (aCons (eC (.int 0)) (aCons (eC (.int 1)) aNil))), (eIx (eVar 0) (eC (.int 1)))) :: (((eTup (aCons (eC (.int 0)) (aCons (eC (.int 0)) aNil))), (eIx (eVar 0) (eC (.int 2)))) :: [])))) aNil)))
noncomputable abbrev M_pair_of_form : List O → Res O := runF 1 B_pair_of_form
noncomputable def B__law_powers : FS := (sSeq (sSet 1 false (eCall M__law_mixed (aCons (eVar 0) (aCons (eC (.int 1)) aNil)))) (sSeq (sIf (tOf (eOp gEq (eOp gMod (eVar 1) (eC (.int 4))) (eC (.int 3)))) (sRet (eTup (aCons (eOp gMod (eOp gDiv (eVar 1) (eC (.int 4))) (eC (.int 61))) (aCons (eOp gMod (eOp gDiv (eVar 1) (eC (.int 244))) (eC (.int 61))) aNil)))) sNil) (sRet (eTup (aCons (eOp gMod (eOp gDiv (eVar 1) (eC (.int 4))) (eC (.int 4))) (aCons (eOp gMod (eOp gDiv (eVar 1) (eC (.int 16))) (eC (.int 4))) aNil))))))
noncomputable abbrev M__law_powers : List O → Res O := runF 2 B__law_powers
noncomputable def B__law_two : FS := (sSeq (sSet 1 true (eLstO (aConsO eDNew (aConsO eDNew aNilO)))) (sSeq (sFor (iRng rng3 (aCons (eC (.int 2)) (aCons (eB gMin2 (aCons (eB gLen (aCons (eVar 0) aNil)) (aCons (eC (.int 62)) aNil))) (aCons (eC (.int 2)) aNil)))) (gN 2) (sSeq (sSet 3 false (eCall M__law_powers (aCons (eCall M__law_cell_at (aCons (eVar 0) (aCons (eOp gAddA (eVar 2) (eC (.int 1))) aNil))) aNil))) (sSeq (sSet 4 false (eCall M__law_number (aCons (eIx (eVar 0) (eVar 2)) (aCons (eOp gPow (eC (.int 10)) (eC (.int 60))) aNil)))) (sSeq (sSet 5 false (eOp gMod (eOp gDiv (eVar 2) (eC (.int 2))) (eC (.int 2)))) (sSeq (sIf (tAndD (tOf (eOp gEq (eVar 5) (eC (.int 1)))) (tAndD (tOf (eOp gEq (eOp gMod (eCall M__law_mixed (aCons (eIx (eVar 0) (eVar 2)) (aCons (eC (.int 2)) aNil))) (eC (.int 5))) (eC (.int 0)))) (tOf (eOp gGt (eDLen (eIx (eVar 1) (eC (.int 0)))) (eC (.int 0)))))) (sSeq (sKeyAt 3 (eIx (eVar 1) (eC (.int 0))) (eOp gMod (eCall M__law_mixed (aCons (eIx (eVar 0) (eVar 2)) (aCons (eC (.int 3)) aNil))) (eDLen (eIx (eVar 1) (eC (.int 0)))))) (sSet 4 false (eUn gNeg (eDIx (eIx (eVar 1) (eC (.int 0))) (eVar 3))))) sNil) (sDPutP 1 (pIx 1 (pVar 1) (eVar 5)) (eVar 4) (eVar 3))))))) (sRet (eLst (aCons (eCall M__law_no_noughts (aCons (eIx (eVar 1) (eC (.int 0))) aNil)) (aCons (eCall M__law_no_noughts (aCons (eIx (eVar 1) (eC (.int 1))) aNil)) aNil))))))
noncomputable abbrev M__law_two : List O → Res O := runF 6 B__law_two
noncomputable def B__law_form : FS := (sSeq (sSet 1 false (eLcD (iRng rng1 (aCons (eC (.int 3)) aNil)) (gN 3) [3] tYesD (eCall M__law_number (aCons (eCall M__law_cell_at (aCons (eVar 0) (aCons (eVar 3) aNil))) (aCons (eOp gPow (eC (.int 10)) (eC (.int 60))) aNil))))) (sSeq (sSet 2 false (eDspT (((eTup (aCons (eC (.int 1)) (aCons (eC (.int 0)) aNil))), (eIx (eVar 1) (eC (.int 0)))) :: (((eTup (aCons (eC (.int 0)) (aCons (eC (.int 1)) aNil))), (eIx (eVar 1) (eC (.int 1)))) :: (((eTup (aCons (eC (.int 0)) (aCons (eC (.int 0)) aNil))), (eIx (eVar 1) (eC (.int 2)))) :: []))))) (sRet (eCall M__law_is_pair (aCons (eCall M_pair_of_form (aCons (eB gTup1 (aCons (eVar 1) aNil)) aNil)) (aCons (eCall M__law_no_noughts (aCons (eVar 2) aNil)) aNil))))))
noncomputable abbrev M__law_form : List O → Res O := runF 4 B__law_form
noncomputable def B_law : FS := (sSeq (sSet 1 false (eCall M__law_two (aCons (eVar 0) aNil))) (sSeq (sSet 2 false (eLst (aCons (eDCopy (eIx (eVar 1) (eC (.int 0)))) (aCons (eDCopy (eIx (eVar 1) (eC (.int 1)))) aNil)))) (sSeq (sFor (iRng rng1 (aCons (eC (.int 2)) aNil)) (gN 3) (sSeq (sIf (tNotD (tOf (eCall M__law_is_pair (aCons (eCall M_pair_plus (aCons (eIx (eVar 2) (eVar 3)) (aCons (eIx (eVar 2) (eOp gSub (eC (.int 1)) (eVar 3))) aNil))) (aCons (eCall M__law_sum (aCons (eIx (eVar 1) (eC (.int 0))) (aCons (eIx (eVar 1) (eC (.int 1))) aNil))) aNil))))) (sRet (eC (.bl false))) sNil) (sSeq (sIf (tNotD (tOf (eCall M__law_is_pair (aCons (eCall M_pair_times (aCons (eIx (eVar 2) (eVar 3)) (aCons (eIx (eVar 2) (eOp gSub (eC (.int 1)) (eVar 3))) aNil))) (aCons (eCall M__law_product (aCons (eIx (eVar 1) (eC (.int 0))) (aCons (eIx (eVar 1) (eC (.int 1))) aNil))) aNil))))) (sRet (eC (.bl false))) sNil) (sSeq (sIf (tNotD (tOf (eCall M__law_is_pair (aCons (eCall M_pair_plus (aCons (eIx (eVar 2) (eVar 3)) (aCons (eIx (eVar 2) (eVar 3)) aNil))) (aCons (eCall M__law_sum (aCons (eIx (eVar 1) (eVar 3)) (aCons (eIx (eVar 1) (eVar 3)) aNil))) aNil))))) (sRet (eC (.bl false))) sNil) (sSeq (sSet 4 true (eCall M_pair_plus (aCons (eIx (eVar 2) (eVar 3)) (aCons eDNew aNil)))) (sSeq (sIf (tOrD (tNotD (tOf (eCall M__law_is_pair (aCons (eVar 4) (aCons (eIx (eVar 1) (eVar 3)) aNil))))) (tNotD (tOf (eCall M__law_is_pair (aCons (eCall M_pair_times (aCons eDNew (aCons (eIx (eVar 2) (eVar 3)) aNil))) (aCons eDNew aNil)))))) (sRet (eC (.bl false))) sNil) (sSeq (sDPutL 4 (eC (.int 7)) (eTup (aCons (eC (.int 1)) (aCons (eC (.int 1)) aNil)))) (sIf (tNotD (tOf (eCall M__law_is_pair (aCons (eCall M_pair_plus (aCons eDNew (aCons (eIx (eVar 2) (eVar 3)) aNil))) (aCons (eIx (eVar 1) (eVar 3)) aNil))))) (sRet (eC (.bl false))) sNil)))))))) (sSeq (sSet 4 true (eCall M_pair_times (aCons (eIx (eVar 2) (eC (.int 0))) (aCons (eIx (eVar 2) (eC (.int 0))) aNil)))) (sSeq (sSet 5 false (eCall M__law_product (aCons (eIx (eVar 1) (eC (.int 0))) (aCons (eIx (eVar 1) (eC (.int 0))) aNil)))) (sSeq (sIf (tNotD (tOf (eCall M__law_is_pair (aCons (eVar 4) (aCons (eVar 5) aNil))))) (sRet (eC (.bl false))) sNil) (sSeq (sDClr 4) (sRet (eAnd (eCall M__law_is_pair (aCons (eCall M_pair_times (aCons (eIx (eVar 2) (eC (.int 0))) (aCons (eIx (eVar 2) (eC (.int 0))) aNil))) (aCons (eVar 5) aNil))) (eAnd (eOp gEqT (eVar 2) (eVar 1)) (eCall M__law_form (aCons (eVar 0) aNil))))))))))))
theorem imp__law_cell_at : ∀ os : List O, os.length = 2 → M__law_cell_at os = .bad ∨ M__law_cell_at os = runF 2 B__law_cell_at os := by
  intro os h
  unfold M__law_cell_at
  split
  · rename_i ns k
    by_cases hk : 0 ≤ k
    · right
      rw [if_pos hk]
      symm
      by_cases hl : k < (ns.length : Int)
      · have a0 : eIx (eVar 0) (eVar 1) [.vl false (.fz (.scr ns)), .vl false (.fz (.int k))] = .ok (.nw (I ns[k.toNat])) := ix_scr (k := k) (by simp [eVar]) (by simp [eVar]) (by omega) (by omega)
        have e : cellAt ns k = ns[k.toNat] := by
          unfold cellAt
          rw [List.getD_eq_getElem?_getD, List.getElem?_eq_getElem (by omega)]
          rfl
        rw [e]
        exact run_ret (seq_ret (if_t (by simp [eVar, startE, hl]) (ret_go a0)))
      · have e : cellAt ns k = 0 := by
          unfold cellAt
          rw [List.getD_eq_getElem?_getD, List.getElem?_eq_none (by omega)]
          rfl
        rw [e]
        refine run_ret (seq_go (if_f (by simp [eVar, startE]; omega) rfl) (by simp))
    · left; rw [if_neg hk]
  · exact .inl rfl
theorem imp__law_number : ∀ os : List O, os.length = 2 → M__law_number os = .bad ∨ M__law_number os = runF 2 B__law_number os := by
  intro os h
  unfold M__law_number
  split
  · rename_i i m
    by_cases hm : 1000 < m ∧ m < 2 ^ 300
    · right
      rw [if_pos hm]
      have eM : gMulA (.fz (.int 2)) (.fz (.int m)) = .ok (.nw (.fz (.int (2 * m)))) := gMul_lt 2 300 (by decide) (by omega) (by omega) (by omega) (by omega)
      have hz : 2 * m - 1 ≠ 0 := by omega
      by_cases h1 : i.fmod 3 = 0
      · simp [runF, startE, B__law_number, eVar, gMod_ev, gMod_ev hz, gDiv_pos, eM, lawNumM, h1]
      · by_cases h2 : i.fmod 3 = 1
        · simp [runF, startE, B__law_number, eVar, gMod_ev, gDiv_pos, lawNumM, h2]
        · simp [runF, startE, B__law_number, eVar, gMod_ev, gDiv_pos, lawNumM, h1, h2]
    · left; rw [if_neg hm]
  · exact .inl rfl
theorem imp__law_whole : ∀ os : List O, os.length = 1 → M__law_whole os = .bad ∨ M__law_whole os = runF 1 B__law_whole os := by
  intro os h
  unfold M__law_whole
  split
  · right; simp [runF, startE, B__law_whole, eVar, eAnd, eNot, onB, tyO, isT]
  · exact .inl rfl
theorem lmix_ok (c : Int) (k : Nat) (hk : k ≤ 10) : ∃ v : Int, 0 ≤ v ∧ M__law_mixed [I c, I k] = .ok (I v) := by
  let E (z2 z3 : S) : Env := [.vl false (I c), .vl false (I k), z2, z3]
  have q2 := fmod_rg (a := c) (b := 2) (by omega)
  have t0 : tOf (eOp gEq (eOp gMod (eVar 0) (eC (.int 2))) (eC (.int 0))) (E U U) = .ok (decide (c.fmod 2 = 0)) := t_eq (e_mod (a := c) rfl (by omega)) (eC_ev _)
  show ∃ v : Int, 0 ≤ v ∧ runF 4 B__law_mixed _ = _
  have st : startE 4 [I c, I k] = E U U := rfl
  unfold B__law_mixed
  by_cases h : c.fmod 2 = 0
  · rw [decide_eq_true h] at t0
    have s2 : sSet 2 false (eOp gDiv (eB gAbs (aCons (eVar 0) aNil)) (eC (.int 2))) (E U U) = .nx (E (VI ((c.natAbs : Int).fdiv 2)) U) := by
      have e3 : eB gAbs (aCons (eVar 0) aNil) (E U U) = .ok (.nw (I (c.natAbs : Int))) := by
        rw [b1 (x := .nw (I c)) rfl, ra_nw, er_fz, gAbs_ev, absI_eq]
      exact set_go (e_div e3 (by omega) (by omega)) rfl (by simp [E])
    have h0 : 0 ≤ (c.natAbs : Int).fdiv 2 := Int.fdiv_nonneg (by omega) (by omega)
    obtain ⟨r', hf, v, z3, hv, hr⟩ := for_gen (fg := gN 3) (F := sSet 2 false (eOp gDiv (eVar 2) (eOp gPow (eC (.int 10)) (eC (.int 12))))) (g := fun (k : Nat) => intR (k : Int)) (n := k) (r := E (VI ((c.natAbs : Int).fdiv 2)) U)
      (fun _ r => ∃ (v : Int) (z3 : S), 0 ≤ v ∧ r = E (VI v) z3) ⟨_, U, h0, rfl⟩ (fun i r hi ⟨v, z3, hv, hr⟩ => by
        subst hr
        have p12 : eOp gPow (eC (.int 10)) (eC (.int 12)) (E (VI v) (VI i)) = .ok (.nw (I (10 ^ 12))) := by rw [op_of (eC_ev _) (eC_ev _)]; rfl
        refine ⟨E (VI v) (VI i), E (VI (v.fdiv (10 ^ 12))) (VI i), by simp [intR, E], ?_, _, _, Int.fdiv_nonneg hv (by omega), rfl⟩
        refine set_go (x := .nw (I (v.fdiv (10 ^ 12)))) ?_ rfl (by simp [E])
        rw [op_of (x := .nw (I v)) rfl p12]
        exact gDiv_ev (by decide) (by decide))
    subst hr
    exact ⟨v, hv, run_ret (by rw [st]; exact seq_ret (if_t t0 (seq_go s2 (seq_go (for_go (rng_ok (n := k) rfl (by omega)) hf) rfl))))⟩
  · rw [decide_eq_false h] at t0
    obtain ⟨a, ha⟩ : ∃ a, a = (c + 7919 * k).fmod 2147483629 := ⟨_, rfl⟩
    have qa := fmod_rg (a := c + 7919 * k) (b := 2147483629) (by omega)
    rw [← ha] at qa
    have m1 : eOp gMulA (eC (.int 7919)) (eVar 1) (E U U) = .ok (.nw (I (7919 * k))) := by
      rw [op_of (eC_ev _) (y := .nw (I k)) rfl]; exact gMul_lt 20 10 (by omega) (by omega) (by omega) (by omega) (by omega)
    have s2 : sSet 2 false (eOp gMod (eOp gAddA (eVar 0) (eOp gMulA (eC (.int 7919)) (eVar 1))) (eC (.int 2147483629))) (E U U) = .nx (E (VI a) U) := by
      rw [ha]
      exact set_go (e_mod (e_add (a := c) rfl m1) (by omega)) rfl (by simp [E])
    obtain ⟨b, hb⟩ : ∃ b, b = (a * a + 16807 * a + k).fmod 2147483629 := ⟨_, rfl⟩
    have qb := fmod_rg (a := a * a + 16807 * a + k) (b := 2147483629) (by omega)
    rw [← hb] at qb
    have aa : eOp gMulA (eVar 2) (eVar 2) (E (VI a) U) = .ok (.nw (I (a * a))) := by
      rw [op_of (x := .nw (I a)) (y := .nw (I a)) rfl rfl]; exact gMul_lt 40 40 (by omega) (by omega) (by omega) (by omega) (by omega)
    have a1 : eOp gMulA (eC (.int 16807)) (eVar 2) (E (VI a) U) = .ok (.nw (I (16807 * a))) := by
      rw [op_of (eC_ev _) (y := .nw (I a)) rfl]; exact gMul_lt 20 40 (by omega) (by omega) (by omega) (by omega) (by omega)
    have s3 : sSet 2 false (eOp gMod (eOp gAddA (eOp gAddA (eOp gMulA (eVar 2) (eVar 2)) (eOp gMulA (eC (.int 16807)) (eVar 2))) (eVar 1)) (eC (.int 2147483629))) (E (VI a) U) = .nx (E (VI b) U) := by
      rw [hb]
      exact set_go (e_mod (e_add (e_add aa a1) (b := (k : Int)) rfl) (by omega)) rfl (by simp [E])
    have bb : eOp gMulA (eVar 2) (eVar 2) (E (VI b) U) = .ok (.nw (I (b * b))) := by
      rw [op_of (x := .nw (I b)) (y := .nw (I b)) rfl rfl]; exact gMul_lt 40 40 (by omega) (by omega) (by omega) (by omega) (by omega)
    have qc := fmod_rg (a := b * b) (b := 2147483587) (by omega)
    exact ⟨(b * b).fmod 2147483587, qc.1, run_ret (by rw [st]; exact seq_go (if_f t0 rfl) (seq_go s2 (seq_go s3 (ret_go (e_mod bb (by omega))))))⟩
abbrev PK := Int × Int
abbrev PP := List (PK × Int)
def kk (k : PK) : List L2.Key := [.inl k.1, .inl k.2]
theorem kk_inj {a b : PK} (h : kk a = kk b) : a = b := by
  obtain ⟨x, y⟩ := a
  obtain ⟨z, w⟩ := b
  simp [kk] at h
  rw [h.1, h.2]
abbrev pks (p : PP) : List (List L2.Key) := p.map fun x => kk x.1
abbrev pvs (p : PP) : List D := p.map fun x => .int x.2
abbrev pO (p : PP) : O := .dt (pks p) (pvs p)
abbrev pD (p : PP) : D := .dct (pks p) (pvs p)
def IsP (o : O) (p : PP) : Prop := o = pO p ∨ o = .fz (pD p)
theorem IsP.d {o : O} {p : PP} (h : IsP o p) : dctO o = some (pks p, pvs p) := by rcases h with rfl | rfl <;> rfl
def gt : PP → PK → Option Int
  | [], _ => none
  | x :: p, k => if x.1 = k then some x.2 else gt p k
def gv (p : PP) (k : PK) : Int := (gt p k).getD 0
def stp : PP → PK → Int → PP
  | [], k, v => [(k, v)]
  | x :: p, k, v => if x.1 = k then (k, v) :: p else x :: stp p k v
theorem valP_gt : ∀ (p : PP) (k : PK), valP (pks p) (pvs p) (kk k) = (gt p k).map D.int
  | [], k => rfl
  | x :: p, k => by
    show (if kk x.1 = kk k then some (D.int x.2) else valP (pks p) (pvs p) (kk k)) = _
    unfold gt
    by_cases h : x.1 = k
    · rw [if_pos (by rw [h]), if_pos h]; rfl
    · rw [if_neg (fun z => h (kk_inj z)), if_neg h]; exact valP_gt p k
theorem putP_put : ∀ (p : PP) (k : PK) (v : Int), putP (pks p) (pvs p) (kk k) (.int v) = (pks (stp p k v), pvs (stp p k v))
  | [], k, v => rfl
  | x :: p, k, v => by
    show (if kk x.1 = kk k then _ else _) = _
    unfold stp
    by_cases h : x.1 = k
    · rw [if_pos (by rw [h]), if_pos h]
      simp [h]
    · rw [if_neg (fun z => h (kk_inj z)), if_neg h, putP_put p k v]; rfl
def keysP (p : PP) : List PK := p.map (·.1)
theorem gt_none {p : PP} {k : PK} : gt p k = none ↔ k ∉ keysP p := by
  induction p with
  | nil => simp [gt, keysP]
  | cons x p ih =>
    unfold gt
    by_cases h : x.1 = k
    · rw [if_pos h]; simp [keysP, h]
    · rw [if_neg h, ih]
      have h' : ¬ k = x.1 := fun z => h z.symm
      simp [keysP, h']
theorem gt_mem {p : PP} {k : PK} {v : Int} (n : (keysP p).Nodup) : gt p k = some v ↔ (k, v) ∈ p := by
  induction p with
  | nil => simp [gt]
  | cons x p ih =>
    have n' := List.nodup_cons.mp n
    unfold gt
    by_cases h : x.1 = k
    · rw [if_pos h]
      constructor
      · intro e
        have : x.2 = v := Option.some.inj e
        exact List.mem_cons.mpr (.inl (by rw [← h, ← this]))
      · intro m
        rcases List.mem_cons.mp m with e | m
        · rw [← e]
        · exact absurd (List.mem_map.mpr ⟨(k, v), m, rfl⟩) (by rw [← h]; exact n'.1)
    · rw [if_neg h, ih n'.2]
      constructor
      · exact List.mem_cons_of_mem _
      · intro m
        rcases List.mem_cons.mp m with e | m
        · exact absurd (by rw [← e]) h
        · exact m
theorem keys_put (p : PP) (k : PK) (v : Int) : keysP (stp p k v) = if k ∈ keysP p then keysP p else keysP p ++ [k] := by
  induction p with
  | nil => simp [stp, keysP]
  | cons x p ih =>
    unfold stp
    by_cases h : x.1 = k
    · rw [if_pos h, if_pos (by simp [keysP, h])]
      simp [keysP, h]
    · rw [if_neg h]
      show x.1 :: keysP (stp p k v) = _
      rw [ih]
      by_cases h2 : k ∈ keysP p
      · rw [if_pos h2, if_pos (by simp [keysP]; right; simpa [keysP] using h2)]; rfl
      · have h' : ¬ k = x.1 := fun z => h z.symm
        rw [if_neg h2, if_neg (by simp [keysP, h']; simpa [keysP] using h2)]; rfl
theorem nodup_put {p : PP} (n : (keysP p).Nodup) (k : PK) (v : Int) : (keysP (stp p k v)).Nodup := by
  rw [keys_put]
  split
  · exact n
  · rename_i h
    exact List.nodup_append.mpr ⟨n, by simp, fun a ha b hb => by
      have : b = k := by simpa using hb
      rw [this]; exact fun z => h (z ▸ ha)⟩
theorem gt_put (p : PP) (k : PK) (v : Int) (j : PK) : gt (stp p k v) j = if j = k then some v else gt p j := by
  induction p with
  | nil =>
    show (if k = j then some v else none) = _
    by_cases h : j = k
    · rw [if_pos h, if_pos h.symm]
    · rw [if_neg h, if_neg (fun z => h z.symm)]; rfl
  | cons x p ih =>
    unfold stp
    by_cases h : x.1 = k
    · rw [if_pos h]
      show (if k = j then some v else gt p j) = if j = k then some v else (if x.1 = j then some x.2 else gt p j)
      by_cases h2 : j = k
      · rw [if_pos h2, if_pos h2.symm]
      · rw [if_neg h2, if_neg (fun z => h2 z.symm), if_neg (fun z => h2 (by rw [← z, h]))]
    · rw [if_neg h]
      show (if x.1 = j then some x.2 else gt (stp p k v) j) = if j = k then some v else (if x.1 = j then some x.2 else gt p j)
      rw [ih]
      by_cases h2 : x.1 = j
      · rw [if_pos h2, if_pos h2, if_neg (fun z => h (by rw [h2, z]))]
      · rw [if_neg h2, if_neg h2]
theorem gv_put (p : PP) (k : PK) (v : Int) (j : PK) : gv (stp p k v) j = if j = k then v else gv p j := by
  unfold gv
  rw [gt_put]
  split <;> rfl
theorem put_new {p : PP} {k : PK} (h : k ∉ keysP p) (v : Int) : stp p k v = p ++ [(k, v)] := by
  induction p with
  | nil => rfl
  | cons x p ih =>
    unfold stp
    have h1 : ¬ x.1 = k := fun z => h (by simp [keysP, z])
    rw [if_neg h1, ih (fun z => h (by simp [keysP] at z ⊢; right; exact z))]; rfl
def nz (p : PP) : PP := p.filter fun x => decide (x.2 ≠ 0)
theorem nz_nodup {p : PP} (n : (keysP p).Nodup) : (keysP (nz p)).Nodup := n.sublist (List.Sublist.map _ List.filter_sublist)
theorem gv_nz {p : PP} (n : (keysP p).Nodup) (k : PK) : gv (nz p) k = gv p k := by
  unfold gv
  cases h : gt p k with
  | none =>
    have : gt (nz p) k = none := gt_none.mpr fun z => gt_none.mp h ((List.Sublist.map _ List.filter_sublist).subset z)
    rw [this]
  | some v =>
    have hm := (gt_mem n).mp h
    by_cases h0 : v = 0
    · have : gt (nz p) k = none := gt_none.mpr fun z => by
        obtain ⟨x, hx, e⟩ := List.mem_map.mp z
        obtain ⟨hx1, hx2⟩ := List.mem_filter.mp hx
        have : gt p k = some x.2 := (gt_mem n).mpr (by rw [← e]; exact hx1)
        rw [h] at this
        have := Option.some.inj this
        rw [← this, h0] at hx2
        simp at hx2
      rw [this, h0]; rfl
    · rw [(gt_mem (nz_nodup n)).mpr (List.mem_filter.mpr ⟨hm, by simpa using h0⟩)]
def sk (xs : PP) (k : PK) : Int := (xs.map fun x => if x.1 = k then x.2 else 0).sum
theorem sk_gv {p : PP} (n : (keysP p).Nodup) (k : PK) : sk p k = gv p k := by
  induction p with
  | nil => rfl
  | cons x p ih =>
    have n' := List.nodup_cons.mp n
    unfold sk gv gt
    rw [List.map_cons, List.sum_cons]
    have ih' := ih n'.2
    unfold sk gv at ih'
    by_cases h : x.1 = k
    · rw [if_pos h, if_pos h, ih']
      have : gt p k = none := gt_none.mpr (by rw [← h]; exact n'.1)
      rw [this]
      show x.2 + 0 = x.2
      omega
    · rw [if_neg h, if_neg h, ih']; omega
theorem sk_append (xs ys : PP) (k : PK) : sk (xs ++ ys) k = sk xs k + sk ys k := by
  unfold sk
  rw [List.map_append, List.sum_append]
def addP (p : PP) (x : PK × Int) : PP := stp p x.1 (gv p x.1 + x.2)
theorem fold_nodup : ∀ (xs : PP) {p : PP}, (keysP p).Nodup → (keysP (xs.foldl addP p)).Nodup
  | [], _, n => n
  | x :: xs, p, n => fold_nodup xs (nodup_put n _ _)
theorem fold_gv : ∀ (xs : PP) (p : PP) (k : PK), gv (xs.foldl addP p) k = gv p k + sk xs k
  | [], p, k => by show gv p k = gv p k + 0; omega
  | x :: xs, p, k => by
    rw [List.foldl_cons, fold_gv xs (addP p x) k]
    unfold addP
    rw [gv_put]
    unfold sk
    rw [List.map_cons, List.sum_cons]
    by_cases h : k = x.1
    · rw [if_pos h, if_pos h.symm, h]; omega
    · rw [if_neg h, if_neg (fun z => h z.symm)]; omega
theorem put_len (p : PP) (k : PK) (v : Int) : (stp p k v).length ≤ p.length + 1 := by
  induction p with
  | nil => simp [stp]
  | cons x p ih =>
    unfold stp
    split
    · simp
    · simp; omega
theorem fold_len : ∀ (xs : PP) (p : PP), (xs.foldl addP p).length ≤ p.length + xs.length
  | [], p => by simp
  | x :: xs, p => by
    have h1 := fold_len xs (addP p x)
    have h2 := put_len p x.1 (gv p x.1 + x.2)
    rw [List.foldl_cons, List.length_cons]
    unfold addP at h1 ⊢
    omega
theorem len_le : ∀ {xs ys : List PK}, xs.Nodup → (∀ k ∈ xs, k ∈ ys) → xs.length ≤ ys.length
  | [], ys, _, _ => by simp
  | x :: xs, ys, n, h => by
    have n' := List.nodup_cons.mp n
    have hx := h x List.mem_cons_self
    have := len_le (ys := ys.erase x) n'.2 fun k hk => by
      have hne : k ≠ x := fun z => n'.1 (z ▸ hk)
      exact (List.mem_erase_of_ne hne).mpr (h k (List.mem_cons_of_mem _ hk))
    rw [List.length_erase_of_mem hx] at this
    have := List.length_pos_of_mem hx
    rw [List.length_cons]; omega
structure Cl (p : PP) : Prop where
  n : (keysP p).Nodup
  z : ∀ x ∈ p, x.2 ≠ 0
theorem Cl.nz {p : PP} (n : (keysP p).Nodup) : Cl (nz p) := ⟨nz_nodup n, fun x hx => by
  have := (List.mem_filter.mp hx).2
  simpa using this⟩
theorem Cl.key {p : PP} (h : Cl p) (k : PK) : k ∈ keysP p ↔ gv p k ≠ 0 := by
  constructor
  · intro hk
    obtain ⟨x, hx, e⟩ := List.mem_map.mp hk
    have : gt p k = some x.2 := (gt_mem h.n).mpr (by rw [← e]; exact hx)
    unfold gv
    rw [this]
    exact h.z x hx
  · intro hv
    refine Classical.byContradiction fun hk => hv ?_
    unfold gv
    rw [gt_none.mpr hk]; rfl
theorem Cl.same {p q : PP} (hp : Cl p) (hq : Cl q) (h : ∀ k, gv p k = gv q k) : p.length = q.length ∧ ∀ x ∈ p, gt q x.1 = some x.2 := by
  have l1 : (keysP p).length = p.length := List.length_map _
  have l2 : (keysP q).length = q.length := List.length_map _
  have a := len_le hp.n (ys := keysP q) fun k hk => (hq.key k).mpr (by rw [← h]; exact (hp.key k).mp hk)
  have b := len_le hq.n (ys := keysP p) fun k hk => (hp.key k).mpr (by rw [h]; exact (hq.key k).mp hk)
  refine ⟨by omega, fun x hx => ?_⟩
  have g1 : gt p x.1 = some x.2 := (gt_mem hp.n).mpr hx
  have hk : x.1 ∈ keysP q := (hq.key x.1).mpr (by rw [← h]; unfold gv; rw [g1]; exact hp.z x hx)
  have hv := h x.1
  unfold gv at hv
  rw [g1] at hv
  cases g2 : gt q x.1 with
  | none => exact absurd hk (gt_none.mp g2)
  | some w => rw [g2] at hv; exact congrArg some hv.symm
def ent (P : PP) : List (List L2.Key × D) := P.map fun x => (kk x.1, D.int x.2)
theorem zip_ent (P : PP) : (pks P).zip (pvs P) = ent P := by
  unfold ent
  rw [List.zip_map']
theorem IsP.dI {o : O} {P : PP} (h : IsP o P) : DL.dI false o = some (ent P) := by
  rcases h with rfl | rfl
  · show (if false = false ∧ (pks P).length = (pvs P).length then some ((pks P).zip (pvs P)) else none) = _
    rw [if_pos ⟨rfl, by simp⟩, zip_ent]
  · show (if (pks P).length = (pvs P).length then some ((pks P).zip (pvs P)) else none) = _
    rw [if_pos (by simp), zip_ent]
theorem dI_fz (P : PP) : DL.dI true (.fz (pD P)) = some (ent P) := by
  show (if (pks P).length = (pvs P).length then some ((pks P).zip (pvs P)) else none) = _
  rw [if_pos (by simp), zip_ent]
theorem forD_pp {m n : Nat} {F : FS} {P : PP} (I : PP → Env → Prop) (h : ∀ d x e r, d ++ x :: e = P → I d r → m < r.length ∧ n < r.length ∧ ∃ r', F ((r.set m (.tq (kk x.1))).set n (VI x.2)) = .nx r' ∧ I (d ++ [x]) r') :
    ∀ (rest done : PP) (r : Env), done ++ rest = P → I done r → ∃ r', forD m n F (ent rest) r = .nx r' ∧ I P r'
  | [], done, r, e, hi => ⟨r, rfl, by rw [List.append_nil] at e; rw [← e]; exact hi⟩
  | x :: rest, done, r, e, hi => by
    obtain ⟨h1, h2, r', h3, h4⟩ := h done x rest r e hi
    obtain ⟨r2, h5, h6⟩ := forD_pp I h rest (done ++ [x]) r' (by simpa using e) h4
    refine ⟨r2, ?_, h6⟩
    show (if m < r.length ∧ n < r.length then _ else _) = _
    rw [if_pos ⟨h1, h2⟩]
    show (match F ((r.set m (.tq (kk x.1))).set n (VI x.2)) with | .nx r' => _ | .ct r' => _ | .bk r' => _ | .ret o => _ | _ => _) = _
    rw [h3]
    exact h5
theorem fordi_go {i m n : Nat} {F : FS} {P : PP} {r : Env} {w : Bool} {o : O} (hr : r[i]? = some (.vl w o)) (hd : DL.dI w o = some (ent P)) (I : PP → Env → Prop) (h0 : I [] r) (h : ∀ d x e r, d ++ x :: e = P → I d r → m < r.length ∧ n < r.length ∧ ∃ r', F ((r.set m (.tq (kk x.1))).set n (VI x.2)) = .nx r' ∧ I (d ++ [x]) r') : ∃ r', sForDI i m n F r = .nx r' ∧ I P r' := by
  obtain ⟨r', h1, h2⟩ := forD_pp I h P [] r rfl h0
  refine ⟨r', ?_, h2⟩
  unfold sForDI
  rw [hr]
  show (match DL.dI w o with | some ps => forD m n F ps r | none => .bad) = _
  rw [hd]; exact h1
theorem pks_nodup {p : PP} (n : (keysP p).Nodup) : (pks p).Nodup := by
  have e : pks p = (keysP p).map kk := by unfold keysP; rw [List.map_map]; rfl
  rw [e, List.Nodup, List.pairwise_map]
  exact List.Pairwise.imp (fun h z => h (kk_inj z)) n
theorem dput_go {i : Nat} {f g : FE} {r : Env} {p : PP} {k : PK} {v : Int} {x y : R} (h1 : f r = .ok x) (hx : x.a = .fz (.int v)) (hp : r[i]? = some (.vl true (pO p))) (h2 : g r = .ok y) (hy : keyO y.a = some (kk k)) (hn : (keysP p).Nodup) (hl : p.length < 100000) : sDPutL i f g r = .nx (r.set i (.vl true (pO (stp p k v)))) := by
  unfold sDPutL sUse
  simp only [h1, hx, hp, h2, hy]
  rw [if_pos ⟨pks_nodup hn, by simp, by simpa using hl⟩, putP_put]
theorem dget_go {i : Nat} {g : FE} {r : Env} {p : PP} {k : PK} {w : Bool} {o : O} {y : R} (hp : r[i]? = some (.vl w o)) (ho : dctO o = some (pks p, pvs p)) (h2 : g r = .ok y) (hy : keyO y.a = some (kk k)) : eDGet2 i g 0 r = .ok (.nw (I (gv p k))) := by
  unfold eDGet2
  simp only [hp, ho, h2, res_ok, hy, valP_gt]
  unfold gv
  cases gt p k <;> rfl
theorem key_tq (k : PK) : keyO (kO (kk k)) = some (kk k) := rfl
theorem e_tq {i : Nat} {r : Env} {k : List L2.Key} (h : r[i]? = some (.tq k)) : eVar i r = .ok (.vw (kO k)) := by
  unfold eVar; rw [h]
def nB : FS := (sSeq (sSet 1 true eDNew) (sSeq (sForDI 0 2 3 (sIf (tOf (eOp gNe (eVar 3) (eC (.int 0)))) (sDPutL 1 (eVar 3) (eVar 2)) sNil)) (sRetV 1)))
theorem nB_ok {o : O} {P : PP} (h : IsP o P) (hn : (keysP P).Nodup) (hl : P.length < 100000) : runF 4 nB [o] = .ok (pO (nz P)) := by
  let E (f : PP) (a b : S) : Env := [.vl false o, .vl true (pO f), a, b]
  obtain ⟨r', hf, a, b, er⟩ := fordi_go (i := 0) (m := 2) (n := 3) (F := sIf (tOf (eOp gNe (eVar 3) (eC (.int 0)))) (sDPutL 1 (eVar 3) (eVar 2)) sNil) (P := P) (r := E [] U U) (w := false) (o := o) rfl h.dI (fun d r => ∃ a b, r = E (nz d) a b) ⟨U, U, rfl⟩ (fun d x e r hp ⟨a, b, er⟩ => by
    subst er
    let R : Env := E (nz d) (.tq (kk x.1)) (VI x.2)
    refine ⟨by simp [E], by simp [E], ?_⟩
    have tn : tOf (eOp gNe (eVar 3) (eC (.int 0))) R = .ok (!decide (x.2 = 0)) := t_ne (a := x.2) rfl (eC_ev _)
    by_cases h0 : x.2 = 0
    · refine ⟨R, if_f (tn.trans (by rw [decide_eq_true h0]; rfl)) rfl, .tq (kk x.1), VI x.2, ?_⟩
      have : nz (d ++ [x]) = nz d := by unfold nz; rw [List.filter_append]; simp [h0]
      rw [this]
    · have hk : x.1 ∉ keysP d := fun z => by
        have : (keysP P) = keysP d ++ (x.1 :: keysP e) := by rw [← hp]; simp [keysP]
        rw [this] at hn
        exact (List.nodup_append.mp hn).2.2 _ z _ List.mem_cons_self rfl
      have hnd : (keysP (nz d)).Nodup := nz_nodup (by
        have : (keysP P) = keysP d ++ (x.1 :: keysP e) := by rw [← hp]; simp [keysP]
        rw [this] at hn
        exact (List.nodup_append.mp hn).1)
      have hk2 : x.1 ∉ keysP (nz d) := fun z => hk ((List.Sublist.map _ List.filter_sublist).subset z)
      have hlen : (nz d).length < 100000 := by
        have h1 : (nz d).length ≤ d.length := List.length_filter_le _ _
        have h2 : d.length ≤ P.length := by rw [← hp]; simp
        omega
      refine ⟨_, if_t (tn.trans (by rw [decide_eq_false h0]; rfl)) (dput_go (i := 1) (p := nz d) (k := x.1) (v := x.2) (x := .nw (I x.2)) rfl rfl rfl (e_tq (k := kk x.1) rfl) (key_tq _) hnd hlen), .tq (kk x.1), VI x.2, ?_⟩
      have : nz (d ++ [x]) = stp (nz d) x.1 x.2 := by
        rw [put_new hk2]
        unfold nz
        rw [List.filter_append]
        simp [h0]
      rw [this]; rfl)
  subst er
  exact run_ret (seq_go (r' := E [] U U) (set_go (x := .nw (pO [])) rfl rfl (by simp [startE])) (seq_go hf rfl))
theorem drop_ok {o : O} {P : PP} (h : IsP o P) (hn : (keysP P).Nodup) (hl : P.length < 100000) : M_without_noughts [o] = .ok (pO (nz P)) := nB_ok h hn hl
theorem ldrop_ok {o : O} {P : PP} (h : IsP o P) (hn : (keysP P).Nodup) (hl : P.length < 100000) : M__law_no_noughts [o] = .ok (pO (nz P)) := nB_ok h hn hl
theorem add_walk {i m n j : Nat} {P : PP} {w : Bool} {o : O} (E : PP → S → S → Env) (hE : ∀ f a b, (E f a b)[i]? = some (.vl w o) ∧ (E f a b)[j]? = some (.vl true (pO f)) ∧ (E f a b)[m]? = some a ∧ (E f a b)[n]? = some b ∧ m < (E f a b).length ∧ n < (E f a b).length ∧ (∀ x y, ((E f a b).set m x).set n y = E f x y) ∧ ∀ g, (E f a b).set j (.vl true (pO g)) = E g a b) (hd : DL.dI w o = some (ent P)) (f : PP) (hn : (keysP f).Nodup) (hl : f.length + P.length < 100000) (a b : S) :
    ∃ a' b', sForDI i m n (sDPutL j (eOp gAddA (eDGet2 j (eVar m) 0) (eVar n)) (eVar m)) (E f a b) = .nx (E (P.foldl addP f) a' b') := by
  obtain ⟨r', hf, a', b', er⟩ := fordi_go (i := i) (m := m) (n := n) (F := sDPutL j (eOp gAddA (eDGet2 j (eVar m) 0) (eVar n)) (eVar m)) (P := P) (r := E f a b) (w := w) (o := o) (hE f a b).1 hd (fun d r => ∃ a b, r = E (d.foldl addP f) a b) ⟨a, b, rfl⟩ (fun d x e r hp ⟨a, b, er⟩ => by
    subst er
    obtain ⟨_, _, _, _, h5, h6, h7, _⟩ := hE (d.foldl addP f) a b
    obtain ⟨g1, g2, g3, g4, _, _, _, g8⟩ := hE (d.foldl addP f) (.tq (kk x.1)) (VI x.2)
    refine ⟨h5, h6, _, ?_, .tq (kk x.1), VI x.2, rfl⟩
    rw [h7]
    have hlen : (d.foldl addP f).length < 100000 := by
      have h1 := fold_len d f
      have h2 : d.length ≤ P.length := by rw [← hp]; simp
      omega
    have e1 : eDGet2 j (eVar m) 0 (E (d.foldl addP f) (.tq (kk x.1)) (VI x.2)) = .ok (.nw (I (gv (d.foldl addP f) x.1))) := dget_go (p := d.foldl addP f) g2 rfl (e_tq g3) (key_tq _)
    have e2 : eVar n (E (d.foldl addP f) (.tq (kk x.1)) (VI x.2)) = .ok (.nw (I x.2)) := by rw [var_of g4]; rfl
    rw [dput_go (v := gv (d.foldl addP f) x.1 + x.2) (e_add e1 e2) rfl g2 (e_tq g3) (key_tq _) (fold_nodup d hn) hlen, g8, List.foldl_append]
    rfl)
  subst er
  exact ⟨a', b', hf⟩
theorem n0P : (keysP ([] : PP)).Nodup := List.nodup_nil
def Sm (P : PP) : Prop := ∀ x ∈ P, (0 ≤ x.1.1 ∧ x.1.1 < 61) ∧ 0 ≤ x.1.2 ∧ x.1.2 < 61
theorem Sm.all {P : PP} (h : Sm P) : (pks P).all smK = true := List.all_eq_true.mpr fun k hk => by
  obtain ⟨x, hx, rfl⟩ := List.mem_map.mp hk
  obtain ⟨⟨h1, h2⟩, h3, h4⟩ := h x hx
  exact decide_eq_true ⟨h1, h2, h3, h4⟩
theorem see_IsP {o : O} {P : PP} (h : IsP o P) (b : Bool) : dctO (see b o).a = some (pks P, pvs P) := by rw [see_a]; exact h.d
def plusP (P Q : PP) : PP := nz (Q.foldl addP P)
theorem plus_cl {P : PP} (n : (keysP P).Nodup) (Q : PP) : Cl (plusP P Q) := Cl.nz (fold_nodup Q n)
theorem plus_gv {P : PP} (n : (keysP P).Nodup) (Q : PP) (k : PK) : gv (plusP P Q) k = gv P k + sk Q k := by
  unfold plusP
  rw [gv_nz (fold_nodup Q n), fold_gv]
theorem plus_ok {o1 o2 : O} {P Q : PP} (h1 : IsP o1 P) (h2 : IsP o2 Q) (n : (keysP P).Nodup) (s : Sm P) (hl : P.length + Q.length < 100000) : M_pair_plus [o1, o2] = .ok (pO (plusP P Q)) := by
  let E (f : PP) (a b : S) : Env := [.vl false o1, .vl false o2, .vl true (pO f), a, b]
  have e0 : eDCopy (eVar 0) (startE 5 [o1, o2]) = .ok (.nw (pO P)) := by
    unfold eDCopy
    rw [show eVar 0 (startE 5 [o1, o2]) = .ok (see false o1) from rfl, res_ok, see_IsP h1]
    simp only
    rw [if_pos ⟨pks_nodup n, s.all⟩]
  obtain ⟨a, b, hw⟩ := add_walk (i := 1) (m := 3) (n := 4) (j := 2) (w := false) (o := o2) E (fun f a b => ⟨rfl, rfl, rfl, rfl, by simp [E], by simp [E], fun _ _ => rfl, fun _ => rfl⟩) h2.dI P n hl U U
  show runF 5 B_pair_plus _ = _
  unfold B_pair_plus
  have hlen : (Q.foldl addP P).length < 100000 := by have := fold_len Q P; omega
  exact run_ret (seq_go (r' := E P U U) (set_go (x := .nw (pO P)) e0 rfl (by simp [startE])) (seq_go hw (ret_go (call1 (x := .vw (pO (Q.foldl addP P))) rfl (drop_ok (.inl rfl) (fold_nodup Q n) hlen)))))
theorem lsum_ok {P Q : PP} (hl : P.length + Q.length < 100000) : M__law_sum [.fz (pD P), .fz (pD Q)] = .ok (pO (nz (P.foldl addP (Q.foldl addP [])))) := by
  let E (s : S) (f : PP) (a b : S) : Env := [.vl false (.fz (pD P)), .vl false (.fz (pD Q)), .vl true (pO f), s, a, b]
  have n0 := n0P
  obtain ⟨a, b, hw⟩ := add_walk (i := 3) (m := 4) (n := 5) (j := 2) (w := true) (o := .fz (pD Q)) (E (.vl true (.fz (pD Q)))) (fun f a b => ⟨rfl, rfl, rfl, rfl, by simp [E], by simp [E], fun _ _ => rfl, fun _ => rfl⟩) (dI_fz Q) [] n0 (by simp; omega) U U
  have hlq : (Q.foldl addP []).length ≤ Q.length := by have := fold_len Q []; simpa using this
  obtain ⟨a', b', hw'⟩ := add_walk (i := 3) (m := 4) (n := 5) (j := 2) (w := true) (o := .fz (pD P)) (E (.vl true (.fz (pD P)))) (fun f a b => ⟨rfl, rfl, rfl, rfl, by simp [E], by simp [E], fun _ _ => rfl, fun _ => rfl⟩) (dI_fz P) (Q.foldl addP []) (fold_nodup Q n0) (by omega) a b
  have hlen : (P.foldl addP (Q.foldl addP [])).length < 100000 := by have := fold_len P (Q.foldl addP []); omega
  show runF 6 B__law_sum _ = _
  unfold B__law_sum
  refine run_ret (seq_go (r' := E U [] U U) (set_go (x := .nw (pO [])) rfl rfl (by simp [startE])) (seq_go (r' := E (.vl true (.fz (pD P))) (P.foldl addP (Q.foldl addP [])) a' b') (for_go (its := [.nw (.fz (pD Q)), .nw (.fz (pD P))]) rfl (forL_two (r1 := E (.vl true (.fz (pD Q))) [] U U) (r2 := E (.vl true (.fz (pD Q))) (Q.foldl addP []) a b) (r3 := E (.vl true (.fz (pD P))) (Q.foldl addP []) a b) rfl hw rfl hw')) (ret_go (call1 (x := .vw (pO (P.foldl addP (Q.foldl addP [])))) rfl (ldrop_ok (.inl rfl) (fold_nodup P (fold_nodup Q n0)) hlen)))))
def mulT (l r : PK × Int) : PK × Int := ((l.1.1 + r.1.1, l.1.2 + r.1.2), l.2 * r.2)
def mulL (P Q : PP) : PP := P.flatMap fun l => Q.map (mulT l)
theorem mulL_snoc (P Q : PP) (x : PK × Int) : mulL (P ++ [x]) Q = mulL P Q ++ Q.map (mulT x) := by simp [mulL]
theorem mulL_len (P Q : PP) : (mulL P Q).length = P.length * Q.length := by
  induction P with
  | nil => simp [mulL]
  | cons x P ih =>
    show (Q.map (mulT x) ++ mulL P Q).length = _
    rw [List.length_append, List.length_map, ih, List.length_cons, Nat.add_mul, Nat.one_mul]; omega
def tB : FS := (sSeq (sSet 7 false (eTup (aCons (eOp gAddA (eIx (eVar 3) (eC (.int 0))) (eIx (eVar 5) (eC (.int 0)))) (aCons (eOp gAddA (eIx (eVar 3) (eC (.int 1))) (eIx (eVar 5) (eC (.int 1)))) aNil)))) (sDPutL 2 (eOp gAddA (eDGet2 2 (eVar 7) 0) (eOp gMulA (eVar 4) (eVar 6))) (eVar 7)))
section
variable {o1 o2 : O}
theorem tB_ok {f : PP} (hn : (keysP f).Nodup) (hl : f.length < 100000) (x y : PK × Int) (z : S) (bx : x.2.natAbs < 2 ^ 250) (by' : y.2.natAbs < 2 ^ 250) : tB [.vl false o1, .vl false o2, .vl true (pO f), .tq (kk x.1), VI x.2, .tq (kk y.1), VI y.2, z] = .nx [.vl false o1, .vl false o2, .vl true (pO (addP f (mulT x y))), .tq (kk x.1), VI x.2, .tq (kk y.1), VI y.2, .vl true (.fz (.tup [.int (x.1.1 + y.1.1), .int (x.1.2 + y.1.2)]))] := by
  let R : Env := [.vl false o1, .vl false o2, .vl true (pO f), .tq (kk x.1), VI x.2, .tq (kk y.1), VI y.2, .vl true (.fz (.tup [.int (x.1.1 + y.1.1), .int (x.1.2 + y.1.2)]))]
  have em : eOp gMulA (eVar 4) (eVar 6) R = .ok (.nw (I (x.2 * y.2))) := by
    rw [op_of (x := .nw (I x.2)) (y := .nw (I y.2)) rfl rfl]
    exact gMul_lt 250 250 bx by' (by omega) (by omega) (by omega)
  have eg : eDGet2 2 (eVar 7) 0 R = .ok (.nw (I (gv f (x.1.1 + y.1.1, x.1.2 + y.1.2)))) := dget_go (p := f) (k := (x.1.1 + y.1.1, x.1.2 + y.1.2)) (i := 2) (w := true) (o := pO f) rfl rfl (y := .nw (.fz (.tup [.int (x.1.1 + y.1.1), .int (x.1.2 + y.1.2)]))) rfl rfl
  exact seq_go (r' := R) rfl (dput_go (i := 2) (p := f) (k := (x.1.1 + y.1.1, x.1.2 + y.1.2)) (v := gv f (x.1.1 + y.1.1, x.1.2 + y.1.2) + x.2 * y.2) (e_add eg em) rfl rfl (y := .nw (.fz (.tup [.int (x.1.1 + y.1.1), .int (x.1.2 + y.1.2)]))) rfl rfl hn hl)
theorem tw_ok {i j : Nat} {P Q : PP} {oa ob : O} (hi : ∀ z2 z3 z4 z5 z6 z7, ([.vl false o1, .vl false o2, z2, z3, z4, z5, z6, z7] : Env)[i]? = some (.vl false oa)) (hj : ∀ z2 z3 z4 z5 z6 z7, ([.vl false o1, .vl false o2, z2, z3, z4, z5, z6, z7] : Env)[j]? = some (.vl false ob)) (ha : IsP oa P) (hb : IsP ob Q) (hl : P.length * Q.length < 100000) (bP : ∀ x ∈ P, x.2.natAbs < 2 ^ 250) (bQ : ∀ x ∈ Q, x.2.natAbs < 2 ^ 250) :
    ∃ z3 z4 z5 z6 z7, sForDI i 3 4 (sForDI j 5 6 tB) [.vl false o1, .vl false o2, .vl true (pO []), U, U, U, U, U] = .nx [.vl false o1, .vl false o2, .vl true (pO ((mulL P Q).foldl addP [])), z3, z4, z5, z6, z7] := by
  let E (f : PP) (z3 z4 z5 z6 z7 : S) : Env := [.vl false o1, .vl false o2, .vl true (pO f), z3, z4, z5, z6, z7]
  have n0 := n0P
  obtain ⟨r', hf, z3, z4, z5, z6, z7, er⟩ := fordi_go (i := i) (m := 3) (n := 4) (F := sForDI j 5 6 tB) (P := P) (r := E [] U U U U U) (w := false) (o := oa) (hi _ _ _ _ _ _) ha.dI (fun d r => ∃ z3 z4 z5 z6 z7, r = E ((mulL d Q).foldl addP []) z3 z4 z5 z6 z7) ⟨U, U, U, U, U, rfl⟩ (fun d x e r hp ⟨z3, z4, z5, z6, z7, er⟩ => by
    subst er
    refine ⟨by simp [E], by simp [E], ?_⟩
    have hx : x ∈ P := by rw [← hp]; simp
    have hdl : (mulL d Q).length + Q.length ≤ P.length * Q.length := by
      rw [mulL_len, ← Nat.succ_mul]
      exact Nat.mul_le_mul_right _ (by rw [← hp]; simp)
    obtain ⟨r2, hf2, y5, y6, y7, er2⟩ := fordi_go (i := j) (m := 5) (n := 6) (F := tB) (P := Q) (r := E ((mulL d Q).foldl addP []) (.tq (kk x.1)) (VI x.2) z5 z6 z7) (w := false) (o := ob) (hj _ _ _ _ _ _) hb.dI (fun d2 r => ∃ y5 y6 y7, r = E ((mulL d Q ++ d2.map (mulT x)).foldl addP []) (.tq (kk x.1)) (VI x.2) y5 y6 y7) ⟨z5, z6, z7, by simp⟩ (fun d2 y e2 r hp2 ⟨y5, y6, y7, er2⟩ => by
      subst er2
      refine ⟨by simp [E], by simp [E], ?_⟩
      have hy : y ∈ Q := by rw [← hp2]; simp
      have hlen : ((mulL d Q ++ d2.map (mulT x)).foldl addP []).length < 100000 := by
        have h1 := fold_len (mulL d Q ++ d2.map (mulT x)) []
        rw [List.length_append, List.length_map] at h1
        have h2 : d2.length ≤ Q.length := by rw [← hp2]; simp
        rw [show ([] : PP).length = 0 from rfl] at h1
        omega
      have := tB_ok (o1 := o1) (o2 := o2) (fold_nodup (mulL d Q ++ d2.map (mulT x)) n0) hlen x y y7 (bP x hx) (bQ y hy)
      refine ⟨_, this, .tq (kk y.1), VI y.2, .vl true (.fz (.tup [.int (x.1.1 + y.1.1), .int (x.1.2 + y.1.2)])), ?_⟩
      have e : (mulL d Q ++ (d2 ++ [y]).map (mulT x)).foldl addP [] = addP ((mulL d Q ++ d2.map (mulT x)).foldl addP []) (mulT x y) := by
        rw [List.map_append, ← List.append_assoc]
        exact List.foldl_append
      rw [e])
    subst er2
    refine ⟨_, hf2, .tq (kk x.1), VI x.2, y5, y6, y7, ?_⟩
    rw [mulL_snoc])
  subst er
  exact ⟨z3, z4, z5, z6, z7, hf⟩
end
def timesP (P Q : PP) : PP := nz ((mulL P Q).foldl addP [])
theorem times_cl (P Q : PP) : Cl (timesP P Q) := Cl.nz (fold_nodup _ n0P)
theorem times_gv (P Q : PP) (k : PK) : gv (timesP P Q) k = sk (mulL P Q) k := by
  unfold timesP
  rw [gv_nz (fold_nodup _ n0P), fold_gv]
  show 0 + _ = _
  omega
theorem times_okP {o1 o2 : O} {P Q : PP} (h1 : IsP o1 P) (h2 : IsP o2 Q) (hl : P.length * Q.length < 100000) (bP : ∀ x ∈ P, x.2.natAbs < 2 ^ 250) (bQ : ∀ x ∈ Q, x.2.natAbs < 2 ^ 250) : M_pair_times [o1, o2] = .ok (pO (timesP P Q)) := by
  obtain ⟨z3, z4, z5, z6, z7, hw⟩ := tw_ok (o1 := o1) (o2 := o2) (i := 0) (j := 1) (P := P) (Q := Q) (fun _ _ _ _ _ _ => rfl) (fun _ _ _ _ _ _ => rfl) h1 h2 hl bP bQ
  have hlen : ((mulL P Q).foldl addP []).length < 100000 := by
    have := fold_len (mulL P Q) []
    rw [mulL_len, show ([] : PP).length = 0 from rfl] at this
    omega
  show runF 8 B_pair_times _ = _
  unfold B_pair_times
  exact run_ret (seq_go (r' := [.vl false o1, .vl false o2, .vl true (pO []), U, U, U, U, U]) (set_go (x := .nw (pO [])) rfl rfl (by simp [startE])) (seq_go hw (ret_go (call1 (x := .vw (pO ((mulL P Q).foldl addP []))) rfl (drop_ok (.inl rfl) (fold_nodup _ n0P) hlen)))))
theorem lprod_ok {o1 o2 : O} {P Q : PP} (h1 : IsP o1 P) (h2 : IsP o2 Q) (hl : Q.length * P.length < 100000) (bP : ∀ x ∈ P, x.2.natAbs < 2 ^ 250) (bQ : ∀ x ∈ Q, x.2.natAbs < 2 ^ 250) : M__law_product [o1, o2] = .ok (pO (timesP Q P)) := by
  obtain ⟨z3, z4, z5, z6, z7, hw⟩ := tw_ok (o1 := o1) (o2 := o2) (i := 1) (j := 0) (P := Q) (Q := P) (fun _ _ _ _ _ _ => rfl) (fun _ _ _ _ _ _ => rfl) h2 h1 hl bQ bP
  have hlen : ((mulL Q P).foldl addP []).length < 100000 := by
    have := fold_len (mulL Q P) []
    rw [mulL_len, show ([] : PP).length = 0 from rfl] at this
    omega
  show runF 8 B__law_product _ = _
  unfold B__law_product
  exact run_ret (seq_go (r' := [.vl false o1, .vl false o2, .vl true (pO []), U, U, U, U, U]) (set_go (x := .nw (pO [])) rfl rfl (by simp [startE])) (seq_go hw (ret_go (call1 (x := .vw (pO ((mulL Q P).foldl addP []))) rfl (ldrop_ok (.inl rfl) (fold_nodup _ n0P) hlen)))))
theorem sum_swap {α β : Type} (f : α → β → Int) : ∀ (xs : List α) (ys : List β), (xs.map fun x => (ys.map fun y => f x y).sum).sum = (ys.map fun y => (xs.map fun x => f x y).sum).sum
  | [], ys => by
    induction ys with
    | nil => rfl
    | cons y ys ih =>
      rw [List.map_cons, List.sum_cons, ← ih]
      rfl
  | x :: xs, ys => by
    rw [List.map_cons, List.sum_cons, sum_swap f xs ys]
    have add : ∀ (g h : β → Int) (ys : List β), (ys.map g).sum + (ys.map h).sum = (ys.map fun y => g y + h y).sum := fun g h ys => by
      induction ys with
      | nil => rfl
      | cons y ys ih => simp only [List.map_cons, List.sum_cons]; omega
    rw [add]
    simp
theorem sk_mul (P Q : PP) (k : PK) : sk (mulL P Q) k = (P.map fun l => (Q.map fun r => if (mulT l r).1 = k then (mulT l r).2 else 0).sum).sum := by
  induction P with
  | nil => rfl
  | cons x P ih =>
    show sk (Q.map (mulT x) ++ mulL P Q) k = _
    rw [sk_append, ih, List.map_cons, List.sum_cons]
    unfold sk
    rw [List.map_map]; rfl
theorem times_turn (P Q : PP) (k : PK) : gv (timesP P Q) k = gv (timesP Q P) k := by
  rw [times_gv, times_gv, sk_mul, sk_mul, sum_swap]
  congr 1
  refine List.map_congr_left fun r _ => ?_
  congr 1
  refine List.map_congr_left fun l _ => ?_
  have e : mulT l r = mulT r l := by
    unfold mulT
    rw [Int.add_comm l.1.1, Int.add_comm l.1.2, Int.mul_comm l.2]
  rw [e]
theorem ispair_ok {o1 o2 : O} {P Q : PP} (h1 : IsP o1 P) (h2 : IsP o2 Q) (cp : Cl P) (cq : Cl Q) (h : ∀ k, gv P k = gv Q k) : M__law_is_pair [o1, o2] = .ok (.fz (.bl true)) := by
  obtain ⟨hl, hg⟩ := cp.same cq h
  let E (a b : S) : Env := [.vl false o1, .vl false o2, a, b]
  have isd : eIsD (eVar 0) (E U U) = .ok (.nw (.fz (.bl true))) := by
    unfold eIsD
    rw [show eVar 0 (E U U) = .ok (see false o1) from rfl, res_ok, see_IsP h1]; rfl
  have len : ∀ {i : Nat} {o : O} {R : PP}, (E U U)[i]? = some (.vl false o) → IsP o R → eDLen (eVar i) (E U U) = .ok (.nw (I R.length)) := fun {i o R} hi ho => by
    unfold eDLen
    rw [var_of hi, res_ok, see_IsP ho]
    show fzR (.int ((pks R).length : Int)) = _
    rw [List.length_map]; rfl
  have t0 : tOrD (tNotD (tOf (eIsD (eVar 0)))) (tOf (eOp gNe (eDLen (eVar 0)) (eDLen (eVar 1)))) (E U U) = .ok false := or_ff (bF isd) ((t_ne (len (i := 0) rfl h1) (len (i := 1) rfl h2)).trans (by rw [decide_eq_true (by omega)]; rfl))
  obtain ⟨r', hf, a, b, er⟩ := fordi_go (i := 0) (m := 2) (n := 3) (F := sSeq (sIf (tOrD (tNotD (tOf (eIsi .tup (eVar 2)))) (tOrD (tOf (eOp gNe (eB gLen (aCons (eVar 2) aNil)) (eC (.int 2)))) (tOf (eDIn true (eVar 2) (eVar 1))))) (sRet (eC (.bl false))) sNil) (sSeq (sIf (tOrD (tNotD (tOf (eCall M__law_whole (aCons (eIx (eVar 2) (eC (.int 0))) aNil)))) (tNotD (tOf (eCall M__law_whole (aCons (eIx (eVar 2) (eC (.int 1))) aNil))))) (sRet (eC (.bl false))) sNil) (sIf (tOrD (tNotD (tOf (eCall M__law_whole (aCons (eVar 3) aNil)))) (tOf (eOp gNe (eVar 3) (eDIx (eVar 1) (eVar 2))))) (sRet (eC (.bl false))) sNil))) (P := P) (r := E U U) (w := false) (o := o1) rfl h1.dI (fun d r => ∃ a b, r = E a b) ⟨U, U, rfl⟩ (fun d x e r hp ⟨a, b, er⟩ => by
    subst er
    let RR : Env := E (.tq (kk x.1)) (VI x.2)
    have hx : x ∈ P := by rw [← hp]; simp
    have hv : valP (pks Q) (pvs Q) (kk x.1) = some (.int x.2) := by rw [valP_gt, hg x hx]; rfl
    have w1 : ∀ {f : FE} {v : Int}, f RR = .ok (.nw (I v)) → tNotD (tOf (eCall M__law_whole (aCons f aNil))) RR = .ok false := fun {f v} hf => bF (call1 (x := .nw (I v)) hf rfl)
    have din : tOf (eDIn true (eVar 2) (eVar 1)) RR = .ok false := by
      have : eDIn true (eVar 2) (eVar 1) RR = .ok (.nw (.fz (.bl false))) := by
        unfold eDIn
        rw [e_tq (i := 2) (r := RR) (k := kk x.1) rfl, res_ok, show eVar 1 RR = .ok (see false o2) from rfl, res_ok, see_IsP h2]
        show (match keyO (kO (kk x.1)) with | some k => fzR (.bl (xor true (valP (pks Q) (pvs Q) k).isSome)) | none => .bad) = _
        rw [key_tq]
        show fzR (.bl (xor true (valP (pks Q) (pvs Q) (kk x.1)).isSome)) = _
        rw [hv]; rfl
      rw [tOf_ev, this]; rfl
    have dix : eDIx (eVar 1) (eVar 2) RR = .ok (.nw (I x.2)) := by
      unfold eDIx
      rw [show eVar 1 RR = .ok (see false o2) from rfl, res_ok, e_tq (i := 2) (r := RR) (k := kk x.1) rfl, res_ok, see_IsP h2]
      show (match keyO (kO (kk x.1)) with | some k => (match valP (pks Q) (pvs Q) k with | some d => Res.ok (R.nw (.fz d)) | none => .bad) | none => .bad) = _
      rw [key_tq]
      show (match valP (pks Q) (pvs Q) (kk x.1) with | some d => Res.ok (R.nw (.fz d)) | none => .bad) = _
      rw [hv]
    refine ⟨by simp [E], by simp [E], RR, ?_, .tq (kk x.1), VI x.2, rfl⟩
    refine seq_go (r' := RR) (if_f (or_ff (bF rfl) (or_ff (t_ne (a := 2) rfl (eC_ev _)) din)) rfl) (seq_go (r' := RR) (if_f (or_ff (w1 (v := x.1.1) rfl) (w1 (v := x.1.2) rfl)) rfl) (if_f (or_ff (w1 (v := x.2) rfl) ((t_ne (a := x.2) rfl dix).trans (by rw [decide_eq_true rfl]; rfl))) rfl)))
  subst er
  show runF 4 B__law_is_pair _ = _
  unfold B__law_is_pair
  have st : startE 4 [o1, o2] = E U U := rfl
  refine run_ret ?_
  rw [st]
  exact seq_go (if_f t0 rfl) (seq_go hf (ret_go (eC_ev _)))
theorem nat_of {v : Int} (h : 0 ≤ v) : ∃ n : Nat, v = n := ⟨v.toNat, by omega⟩
theorem lpow_ok (c : Int) : ∃ k : PK, M__law_powers [I c] = .ok (.fz (.tup [.int k.1, .int k.2])) ∧ (0 ≤ k.1 ∧ k.1 < 61) ∧ 0 ≤ k.2 ∧ k.2 < 61 := by
  obtain ⟨v, v0, hv⟩ := lmix_ok c 1 (by omega)
  let E (z : S) : Env := [.vl false (I c), z]
  have s1 : sSet 1 false (eCall M__law_mixed (aCons (eVar 0) (aCons (eC (.int 1)) aNil))) (E U) = .nx (E (VI v)) := set_go (call2 (x := .nw (I c)) (y := .nw (I 1)) rfl (eC_ev _) hv) rfl (by simp [E])
  have t : tOf (eOp gEq (eOp gMod (eVar 1) (eC (.int 4))) (eC (.int 3))) (E (VI v)) = .ok (decide (v.fmod 4 = 3)) := t_eq (e_mod (a := v) rfl (by omega)) (eC_ev _)
  have dm : ∀ a b : Int, 0 < a → a < 1000 → 0 < b → eOp gMod (eOp gDiv (eVar 1) (eC (.int a))) (eC (.int b)) (E (VI v)) = .ok (.nw (I ((v.fdiv a).fmod b))) := fun a b h1 h2 h3 => e_mod (e_div (a := v) rfl h1 (by omega)) (by omega)
  have tup : ∀ {f g : FE} {a b : Int}, f (E (VI v)) = .ok (.nw (I a)) → g (E (VI v)) = .ok (.nw (I b)) → sRet (eTup (aCons f (aCons g aNil))) (E (VI v)) = .ret (.fz (.tup [.int a, .int b])) := fun {f g a b} h1 h2 => by
    refine ret_go ?_
    rw [eTup, aCons_ev, h1, res_ok, aCons_ev, h2]; rfl
  have st : startE 2 [I c] = E U := rfl
  show ∃ k : PK, runF 2 B__law_powers _ = _ ∧ _
  unfold B__law_powers
  by_cases h : v.fmod 4 = 3
  · have q1 := fmod_rg (a := v.fdiv 4) (b := 61) (by omega)
    have q2 := fmod_rg (a := v.fdiv 244) (b := 61) (by omega)
    exact ⟨((v.fdiv 4).fmod 61, (v.fdiv 244).fmod 61), run_ret (by rw [st]; exact seq_go s1 (seq_ret (if_t (t.trans (by rw [decide_eq_true h])) (tup (dm 4 61 (by omega) (by omega) (by omega)) (dm 244 61 (by omega) (by omega) (by omega)))))), q1, q2⟩
  · have q1 := fmod_rg (a := v.fdiv 4) (b := 4) (by omega)
    have q2 := fmod_rg (a := v.fdiv 16) (b := 4) (by omega)
    exact ⟨((v.fdiv 4).fmod 4, (v.fdiv 16).fmod 4), run_ret (by rw [st]; exact seq_go s1 (seq_go (if_f (t.trans (by rw [decide_eq_false h])) rfl) (tup (dm 4 4 (by omega) (by omega) (by omega)) (dm 16 4 (by omega) (by omega) (by omega))))), ⟨q1.1, by show (v.fdiv 4).fmod 4 < 61; omega⟩, q2.1, by show (v.fdiv 16).fmod 4 < 61; omega⟩
structure Tq (p : PP) (m : Nat) : Prop where
  n : (keysP p).Nodup
  s : Sm p
  b : ∀ x ∈ p, x.2.natAbs < 2 ^ 250
  l : p.length ≤ m
theorem Tq.nil (n : Nat) : Tq [] n := ⟨n0P, (fun _ h => nomatch h), (fun _ h => nomatch h), Nat.zero_le _⟩
theorem mem_stp {p : PP} {k : PK} {v : Int} {x : PK × Int} (h : x ∈ stp p k v) : x ∈ p ∨ x = (k, v) := by
  induction p with
  | nil => exact .inr (by simpa [stp] using h)
  | cons y p ih =>
    unfold stp at h
    split at h
    · rcases List.mem_cons.mp h with e | e
      · exact .inr e
      · exact .inl (List.mem_cons_of_mem _ e)
    · rcases List.mem_cons.mp h with e | e
      · exact .inl (by rw [e]; exact List.mem_cons_self)
      · rcases ih e with e | e
        · exact .inl (List.mem_cons_of_mem _ e)
        · exact .inr e
theorem Tq.put {p : PP} {n : Nat} (h : Tq p n) {k : PK} {v : Int} (hk : (0 ≤ k.1 ∧ k.1 < 61) ∧ 0 ≤ k.2 ∧ k.2 < 61) (hv : v.natAbs < 2 ^ 250) : Tq (stp p k v) (n + 1) := by
  refine ⟨nodup_put h.n k v, fun x hx => ?_, fun x hx => ?_, by have := put_len p k v; have := h.l; omega⟩
  · rcases mem_stp hx with e | e
    · exact h.s x e
    · rw [e]; exact hk
  · rcases mem_stp hx with e | e
    · exact h.b x e
    · rw [e]; exact hv
theorem Tq.up {p : PP} {n m : Nat} (h : Tq p n) (hm : n ≤ m) : Tq p m := ⟨h.n, h.s, h.b, Nat.le_trans h.l hm⟩
theorem Tq.nz {p : PP} {n : Nat} (h : Tq p n) : Tq (nz p) n := ⟨nz_nodup h.n, fun x hx => h.s x (List.mem_filter.mp hx).1, fun x hx => h.b x (List.mem_filter.mp hx).1, Nat.le_trans (List.length_filter_le _ _) h.l⟩
def twT : FS := (sSeq (sSet 3 false (eCall M__law_powers (aCons (eCall M__law_cell_at (aCons (eVar 0) (aCons (eOp gAddA (eVar 2) (eC (.int 1))) aNil))) aNil))) (sSeq (sSet 4 false (eCall M__law_number (aCons (eIx (eVar 0) (eVar 2)) (aCons (eOp gPow (eC (.int 10)) (eC (.int 60))) aNil)))) (sSeq (sSet 5 false (eOp gMod (eOp gDiv (eVar 2) (eC (.int 2))) (eC (.int 2)))) (sSeq (sIf (tAndD (tOf (eOp gEq (eVar 5) (eC (.int 1)))) (tAndD (tOf (eOp gEq (eOp gMod (eCall M__law_mixed (aCons (eIx (eVar 0) (eVar 2)) (aCons (eC (.int 2)) aNil))) (eC (.int 5))) (eC (.int 0)))) (tOf (eOp gGt (eDLen (eIx (eVar 1) (eC (.int 0)))) (eC (.int 0)))))) (sSeq (sKeyAt 3 (eIx (eVar 1) (eC (.int 0))) (eOp gMod (eCall M__law_mixed (aCons (eIx (eVar 0) (eVar 2)) (aCons (eC (.int 3)) aNil))) (eDLen (eIx (eVar 1) (eC (.int 0)))))) (sSet 4 false (eUn gNeg (eDIx (eIx (eVar 1) (eC (.int 0))) (eVar 3))))) sNil) (sDPutP 1 (pIx 1 (pVar 1) (eVar 5)) (eVar 4) (eVar 3))))))
theorem dput2_go {r : Env} {p : PP} {q : PP} {k : PK} {v a : Int} (h1 : eVar 4 r = .ok (.nw (I v))) (hp : r[1]? = some (.vl true (.ls [pO p, pO q]))) (h5 : eVar 5 r = .ok (.nw (I a))) (ha : a = 0 ∨ a = 1) {y : R} (h2 : eVar 3 r = .ok y) (hy : keyO y.a = some (kk k)) (np : (keysP p).Nodup) (nq : (keysP q).Nodup) (lp : p.length < 100000) (lq : q.length < 100000) :
    sDPutP 1 (pIx 1 (pVar 1) (eVar 5)) (eVar 4) (eVar 3) r = .nx (r.set 1 (.vl true (.ls (if a = 0 then [pO (stp p k v), pO q] else [pO p, pO (stp q k v)])))) := by
  have hpath : ∀ j : Nat, a = (j : Int) → j < 2 → pIx 1 (pVar 1) (eVar 5) r = .ok [j] := fun j e hj => by
    unfold pIx pVar
    simp only [hp, res_ok, h5]
    show (match ((atP [] (.ls [pO p, pO q])).bind lenP) with | some n => (match ixN n a with | some j => Res.ok ([] ++ [j]) | none => .bad) | none => .bad) = _
    rw [show ((atP [] (.ls [pO p, pO q])).bind lenP) = some 2 from rfl]
    show (match ixN 2 a with | some j => Res.ok ([] ++ [j]) | none => .bad) = _
    rcases (show j = 0 ∨ j = 1 by omega) with z | z
    · subst z; rw [e]; rfl
    · subst z; rw [e]; rfl
  unfold sDPutP sUse
  simp only [h1, ra_nw, er_fz]
  unfold onP
  rcases ha with e | e
  · rw [hpath 0 (by omega) (by omega)]
    simp only [hp]
    show (match (match eVar 3 r with | .ok x => _ | .exc e => _ | .bad => _) with | z => z) = _
    simp only [sUse, h2, hy]
    rw [if_pos ⟨pks_nodup np, by simp, by simpa using lp⟩, putP_put, if_pos e]; rfl
  · rw [hpath 1 (by omega) (by omega)]
    simp only [hp]
    show (match (match eVar 3 r with | .ok x => _ | .exc e => _ | .bad => _) with | z => z) = _
    simp only [sUse, h2, hy]
    rw [if_pos ⟨pks_nodup nq, by simp, by simpa using lq⟩, putP_put, if_neg (by omega)]; rfl
theorem twT_ok {ns : List Int} {p q : PP} {t : Nat} (hp : Tq p t) (hq : Tq q t) (ht : t ≤ 100) {i : Nat} (hi : i < ns.length) (hi2 : i ≤ 62) (z3 z4 z5 : S) : ∃ (p' q' : PP) (y3 y4 y5 : S), Tq p' (t + 1) ∧ Tq q' (t + 1) ∧ twT [scrS ns, .vl true (.ls [pO p, pO q]), VI i, z3, z4, z5] = .nx [scrS ns, .vl true (.ls [pO p', pO q']), VI i, y3, y4, y5] := by
  let E (b z3 z4 z5 : S) : Env := [scrS ns, b, VI i, z3, z4, z5]
  let BO : S := .vl true (.ls [pO p, pO q])
  obtain ⟨k, hk, k1⟩ := lpow_ok (cellAt ns ((i : Int) + 1))
  let KS : S := .vl true (.fz (.tup [.int k.1, .int k.2]))
  have s3 : sSet 3 false (eCall M__law_powers (aCons (eCall M__law_cell_at (aCons (eVar 0) (aCons (eOp gAddA (eVar 2) (eC (.int 1))) aNil))) aNil)) (E BO z3 z4 z5) = .nx (E BO KS z4 z5) :=
    set_go (call1 (x := .nw (I (cellAt ns ((i : Int) + 1)))) (cell_e (by omega) (e_add (a := (i : Int)) (b := 1) rfl (eC_ev _))) hk) rfl (by simp [E])
  obtain ⟨c, hc⟩ : ∃ c, c = ns[i] := ⟨_, rfl⟩
  have ci : ∀ z3 z4 z5, eIx (eVar 0) (eVar 2) (E BO z3 z4 z5) = .ok (.nw (I c)) := fun z3 z4 z5 => by
    rw [hc]; exact ix_scr (i := i) (k := (i : Int)) rfl rfl rfl hi
  have s4 : sSet 4 false (eCall M__law_number (aCons (eIx (eVar 0) (eVar 2)) (aCons (eOp gPow (eC (.int 10)) (eC (.int 60))) aNil))) (E BO KS z4 z5) = .nx (E BO KS (VI (lawNumM c (10 ^ 60))) z5) :=
    set_go (call2 (x := .nw (I c)) (y := .nw (I (10 ^ 60))) (ci _ _ _) (e60 _) (num_ok p60.1 p60.2)) rfl (by simp [E])
  have bn : (lawNumM c (10 ^ 60)).natAbs < 2 ^ 250 := lt_up (num60_lt c) (by omega)
  generalize lawNumM c (10 ^ 60) = v at *
  have q2 := fmod_rg (a := (i : Int).fdiv 2) (b := 2) (by omega)
  obtain ⟨a, ea⟩ : ∃ a, a = ((i : Int).fdiv 2).fmod 2 := ⟨_, rfl⟩
  rw [← ea] at q2
  have s5 : sSet 5 false (eOp gMod (eOp gDiv (eVar 2) (eC (.int 2))) (eC (.int 2))) (E BO KS (VI v) z5) = .nx (E BO KS (VI v) (VI a)) := by
    rw [ea]
    exact set_go (e_mod (e_div (a := (i : Int)) rfl (by omega) (by omega)) (by omega)) rfl (by simp [E])
  have b0 : ∀ z3 z4 z5, eIx (eVar 1) (eC (.int 0)) (E BO z3 z4 z5) = .ok (.vw (pO p)) := fun z3 z4 z5 => ix_vw (o := .ls [pO p, pO q]) (p := pO p) rfl (eC_ev _) rfl
  have dl : ∀ z3 z4 z5, eDLen (eIx (eVar 1) (eC (.int 0))) (E BO z3 z4 z5) = .ok (.nw (I p.length)) := fun z3 z4 z5 => by
    unfold eDLen
    rw [b0, res_ok]
    show fzR (.int ((pks p).length : Int)) = _
    rw [List.length_map]; rfl
  obtain ⟨m2, _, hm2⟩ := lmix_ok c 2 (by omega)
  obtain ⟨m3, m30, hm3⟩ := lmix_ok c 3 (by omega)
  have lp := hp.l
  have lq := hq.l
  obtain ⟨k', v', z3', s6, hk', hv', hy'⟩ : ∃ (k' : PK) (v' : Int) (z3' : S), sIf (tAndD (tOf (eOp gEq (eVar 5) (eC (.int 1)))) (tAndD (tOf (eOp gEq (eOp gMod (eCall M__law_mixed (aCons (eIx (eVar 0) (eVar 2)) (aCons (eC (.int 2)) aNil))) (eC (.int 5))) (eC (.int 0)))) (tOf (eOp gGt (eDLen (eIx (eVar 1) (eC (.int 0)))) (eC (.int 0)))))) (sSeq (sKeyAt 3 (eIx (eVar 1) (eC (.int 0))) (eOp gMod (eCall M__law_mixed (aCons (eIx (eVar 0) (eVar 2)) (aCons (eC (.int 3)) aNil))) (eDLen (eIx (eVar 1) (eC (.int 0)))))) (sSet 4 false (eUn gNeg (eDIx (eIx (eVar 1) (eC (.int 0))) (eVar 3))))) sNil (E BO KS (VI v) (VI a)) = .nx (E BO z3' (VI v') (VI a)) ∧ ((0 ≤ k'.1 ∧ k'.1 < 61) ∧ 0 ≤ k'.2 ∧ k'.2 < 61) ∧ v'.natAbs < 2 ^ 250 ∧ ∃ y, eVar 3 (E BO z3' (VI v') (VI a)) = .ok y ∧ keyO y.a = some (kk k') := by
    have ta : tOf (eOp gEq (eVar 5) (eC (.int 1))) (E BO KS (VI v) (VI a)) = .ok (decide (a = 1)) := t_eq (a := a) rfl (eC_ev _)
    have tb : tOf (eOp gEq (eOp gMod (eCall M__law_mixed (aCons (eIx (eVar 0) (eVar 2)) (aCons (eC (.int 2)) aNil))) (eC (.int 5))) (eC (.int 0))) (E BO KS (VI v) (VI a)) = .ok (decide (m2.fmod 5 = 0)) := t_eq (e_mod (call2 (x := .nw (I c)) (y := .nw (I 2)) (ci _ _ _) (eC_ev _) hm2) (by omega)) (eC_ev _)
    have tc : tOf (eOp gGt (eDLen (eIx (eVar 1) (eC (.int 0)))) (eC (.int 0))) (E BO KS (VI v) (VI a)) = .ok (decide ((0 : Int) < p.length)) := t_gt (dl _ _ _) (eC_ev _)
    have no : ∀ {tt : Env → Res Bool} {F : FS}, tt (E BO KS (VI v) (VI a)) = .ok false → sIf tt F sNil (E BO KS (VI v) (VI a)) = .nx (E BO KS (VI v) (VI a)) := fun h => if_f h rfl
    by_cases h1 : a = 1
    · by_cases h2 : m2.fmod 5 = 0
      · by_cases h3 : (0 : Int) < p.length
        · have q5 := fmod_rg (a := m3) (b := (p.length : Int)) h3
          obtain ⟨j, ej⟩ : ∃ j : Nat, m3.fmod (p.length : Int) = j := nat_of q5.1
          have hj : j < p.length := by omega
          have em : eOp gMod (eCall M__law_mixed (aCons (eIx (eVar 0) (eVar 2)) (aCons (eC (.int 3)) aNil))) (eDLen (eIx (eVar 1) (eC (.int 0)))) (E BO KS (VI v) (VI a)) = .ok (.nw (I j)) := by
            rw [op_of (call2 (x := .nw (I c)) (y := .nw (I 3)) (ci _ _ _) (eC_ev _) hm3) (dl _ _ _), ← ej]
            exact gMod_ev (by omega)
          have hx := List.getElem_mem hj
          have sk1 : sKeyAt 3 (eIx (eVar 1) (eC (.int 0))) (eOp gMod (eCall M__law_mixed (aCons (eIx (eVar 0) (eVar 2)) (aCons (eC (.int 3)) aNil))) (eDLen (eIx (eVar 1) (eC (.int 0))))) (E BO KS (VI v) (VI a)) = .nx (E BO (.tq (kk p[j].1)) (VI v) (VI a)) := by
            unfold sKeyAt
            simp only [sUse, b0, em]
            show (match ixN (pks p).length (j : Int) with | some j => (if 3 < (E BO KS (VI v) (VI a)).length then Out.nx ((E BO KS (VI v) (VI a)).set 3 (.tq ((pks p).getD j []))) else .bad) | none => .bad) = _
            have e1 : ixN (pks p).length (j : Int) = some j := by
              rw [List.length_map]
              unfold ixN
              rw [if_pos (by omega)]
              simp; omega
            rw [e1]
            simp only
            rw [if_pos (by simp [E])]
            have e2 : (pks p).getD j [] = kk p[j].1 := by
              rw [List.getD_eq_getElem?_getD, List.getElem?_map, List.getElem?_eq_getElem hj]; rfl
            rw [e2]; rfl
          have hg : gt p p[j].1 = some p[j].2 := (gt_mem hp.n).mpr hx
          have s4' : sSet 4 false (eUn gNeg (eDIx (eIx (eVar 1) (eC (.int 0))) (eVar 3))) (E BO (.tq (kk p[j].1)) (VI v) (VI a)) = .nx (E BO (.tq (kk p[j].1)) (VI (-p[j].2)) (VI a)) := by
            have dix : eDIx (eIx (eVar 1) (eC (.int 0))) (eVar 3) (E BO (.tq (kk p[j].1)) (VI v) (VI a)) = .ok (.nw (I p[j].2)) := by
              unfold eDIx
              rw [b0, res_ok, e_tq (i := 3) (r := E BO (.tq (kk p[j].1)) (VI v) (VI a)) (k := kk p[j].1) rfl, res_ok]
              show (match dctO (pO p), keyO (kO (kk p[j].1)) with | some p, some k => (match valP p.1 p.2 k with | some d => Res.ok (R.nw (.fz d)) | none => .bad) | _, _ => .bad) = _
              rw [key_tq]
              show (match valP (pks p) (pvs p) (kk p[j].1) with | some d => Res.ok (R.nw (.fz d)) | none => .bad) = _
              rw [valP_gt, hg]; rfl
            refine set_go (x := .nw (I (-p[j].2))) ?_ rfl (by simp [E])
            unfold eUn
            rw [dix]; rfl
          refine ⟨p[j].1, -p[j].2, .tq (kk p[j].1), if_t (and_t (ta.trans (by rw [decide_eq_true h1])) (and_t (tb.trans (by rw [decide_eq_true h2])) (tc.trans (by rw [decide_eq_true h3])))) (seq_go sk1 s4'), hp.s _ hx, by rw [Int.natAbs_neg]; exact hp.b _ hx, _, e_tq (k := kk p[j].1) rfl, key_tq _⟩
        · exact ⟨k, v, KS, no (and_t (ta.trans (by rw [decide_eq_true h1])) (and_t (tb.trans (by rw [decide_eq_true h2])) (tc.trans (by rw [decide_eq_false h3])))), k1, bn, .nw (.fz (.tup [.int k.1, .int k.2])), rfl, rfl⟩
      · exact ⟨k, v, KS, no (and_t (ta.trans (by rw [decide_eq_true h1])) (and_f (tb.trans (by rw [decide_eq_false h2])))), k1, bn, .nw (.fz (.tup [.int k.1, .int k.2])), rfl, rfl⟩
    · exact ⟨k, v, KS, no (and_f (ta.trans (by rw [decide_eq_false h1]))), k1, bn, .nw (.fz (.tup [.int k.1, .int k.2])), rfl, rfl⟩
  obtain ⟨y, hy1, hy2⟩ := hy'
  have s7 := dput2_go (r := E BO z3' (VI v') (VI a)) (p := p) (q := q) (k := k') (v := v') (a := a) rfl rfl rfl (by omega) hy1 hy2 hp.n hq.n (by omega) (by omega)
  by_cases h0 : a = 0
  · rw [if_pos h0] at s7
    exact ⟨stp p k' v', q, z3', VI v', VI a, hp.put hk' hv', hq.up (by omega), seq_go s3 (seq_go s4 (seq_go s5 (seq_go s6 s7)))⟩
  · rw [if_neg h0] at s7
    exact ⟨p, stp q k' v', z3', VI v', VI a, hp.up (by omega), hq.put hk' hv', seq_go s3 (seq_go s4 (seq_go s5 (seq_go s6 s7)))⟩
theorem two_ok {ns : List Int} (hns : ns.length ≤ 63) : ∃ P Q : PP, M__law_two [.fz (.scr ns)] = .ok (.ls [.fz (pD P), .fz (pD Q)]) ∧ Cl P ∧ Cl Q ∧ Tq P 40 ∧ Tq Q 40 := by
  let E (b z2 z3 z4 z5 : S) : Env := [scrS ns, b, z2, z3, z4, z5]
  obtain ⟨b, hb⟩ : ∃ b : Int, b = if (62 : Int) < (ns.length : Int) then (62 : Int) else (ns.length : Int) := ⟨_, rfl⟩
  have args : aCons (eC (.int 2)) (aCons (eB gMin2 (aCons (eB gLen (aCons (eVar 0) aNil)) (aCons (eC (.int 62)) aNil))) (aCons (eC (.int 2)) aNil)) (E (.vl true (.ls [pO [], pO []])) U U U U) = .ok [I 2, I b, I 2] := by
    have e1 : eB gMin2 (aCons (eB gLen (aCons (eVar 0) aNil)) (aCons (eC (.int 62)) aNil)) (E (.vl true (.ls [pO [], pO []])) U U U U) = .ok (.nw (I b)) := by
      have el : eB gLen (aCons (eVar 0) aNil) (E (.vl true (.ls [pO [], pO []])) U U U U) = .ok (.nw (I ns.length)) := by
        rw [b1 (x := .nw (.fz (.scr ns))) rfl]
        simp [gLen, lenO]
      rw [b2 el (eC_ev _), hb]; rfl
    rw [aCons_ev, eC_ev, res_ok, aCons_ev, e1]; rfl
  have walk : ∃ (p q : PP) (z2 z3 z4 z5 : S), Tq p 40 ∧ Tq q 40 ∧ sFor (iRng rng3 (aCons (eC (.int 2)) (aCons (eB gMin2 (aCons (eB gLen (aCons (eVar 0) aNil)) (aCons (eC (.int 62)) aNil))) (aCons (eC (.int 2)) aNil)))) (gN 2) twT (E (.vl true (.ls [pO [], pO []])) U U U U) = .nx (E (.vl true (.ls [pO p, pO q])) z2 z3 z4 z5) := by
    by_cases h2 : (2 : Int) < b
    · have hit : iRng rng3 (aCons (eC (.int 2)) (aCons (eB gMin2 (aCons (eB gLen (aCons (eVar 0) aNil)) (aCons (eC (.int 62)) aNil))) (aCons (eC (.int 2)) aNil))) (E (.vl true (.ls [pO [], pO []])) U U U U) = .ok ((List.range ((b - 2 - 1) / 2 + 1).toNat).map fun (n : Nat) => intR (2 + (n : Nat) * 2)) := by
        rw [iRng_ev, args]
        exact rng3_up (by omega) (by omega) (by omega) h2 (by omega)
      have hb2 : b ≤ 62 ∧ b ≤ ns.length := by rw [hb]; split <;> omega
      obtain ⟨r', hf, p, q, z2, z3, z4, z5, hp, hq, er⟩ := for_gen (fg := gN 2) (F := twT) (g := fun (n : Nat) => intR (2 + (n : Nat) * 2)) (n := ((b - 2 - 1) / 2 + 1).toNat) (r := E (.vl true (.ls [pO [], pO []])) U U U U) (fun t r => ∃ (p q : PP) (z2 z3 z4 z5 : S), Tq p t ∧ Tq q t ∧ r = E (.vl true (.ls [pO p, pO q])) z2 z3 z4 z5) ⟨[], [], U, U, U, U, Tq.nil _, Tq.nil _, rfl⟩ (fun t r ht ⟨p, q, z2, z3, z4, z5, hp, hq, er⟩ => by
        subst er
        have hi : 2 + 2 * t < ns.length := by omega
        obtain ⟨p', q', y3, y4, y5, hp', hq', hs⟩ := twT_ok (ns := ns) hp hq (by omega) hi (by omega) z3 z4 z5
        refine ⟨E (.vl true (.ls [pO p, pO q])) (VI (2 + (t : Int) * 2)) z3 z4 z5, _, by simp [intR, E], ?_, p', q', VI ((2 + 2 * t : Nat) : Int), y3, y4, y5, hp', hq', rfl⟩
        rw [show 2 + (t : Int) * 2 = ((2 + 2 * t : Nat) : Int) by omega]
        exact hs)
      subst er
      exact ⟨p, q, z2, z3, z4, z5, hp.up (by omega), hq.up (by omega), for_go hit hf⟩
    · have hit : iRng rng3 (aCons (eC (.int 2)) (aCons (eB gMin2 (aCons (eB gLen (aCons (eVar 0) aNil)) (aCons (eC (.int 62)) aNil))) (aCons (eC (.int 2)) aNil))) (E (.vl true (.ls [pO [], pO []])) U U U U) = .ok [] := by
        rw [iRng_ev, args]
        exact rng3_up0 (by omega) (by omega) (by rw [hb]; split <;> omega) h2 (by omega)
      exact ⟨[], [], U, U, U, U, Tq.nil _, Tq.nil _, for_go hit rfl⟩
  obtain ⟨p, q, z2, z3, z4, z5, hp, hq, hw⟩ := walk
  refine ⟨nz p, nz q, ?_, Cl.nz hp.n, Cl.nz hq.n, hp.nz, hq.nz⟩
  have lp := hp.l
  have lq := hq.l
  have b0 : eIx (eVar 1) (eC (.int 0)) (E (.vl true (.ls [pO p, pO q])) z2 z3 z4 z5) = .ok (.vw (pO p)) := ix_vw (o := .ls [pO p, pO q]) (p := pO p) rfl (eC_ev _) rfl
  have b1' : eIx (eVar 1) (eC (.int 1)) (E (.vl true (.ls [pO p, pO q])) z2 z3 z4 z5) = .ok (.vw (pO q)) := ix_vw (o := .ls [pO p, pO q]) (p := pO q) rfl (eC_ev _) rfl
  show runF 6 B__law_two _ = _
  unfold B__law_two
  refine run_ret (seq_go (r' := E (.vl true (.ls [pO [], pO []])) U U U U) rfl (seq_go hw (ret_go ?_)))
  rw [eLst, aCons_ev, call1 b0 (ldrop_ok (.inl rfl) hp.n (by omega)), res_ok, aCons_ev, call1 b1' (ldrop_ok (.inl rfl) hq.n (by omega))]
  rfl
def frm (x y z : Int) : PP := [((1, 0), x), ((0, 1), y), ((0, 0), z)]
theorem frm_n (x y z : Int) : (keysP (frm x y z)).Nodup := by
  show ([((1 : Int), (0 : Int)), (0, 1), (0, 0)] : List PK).Nodup
  decide
def frmE (i : Nat) : List (FE × FE) := ((eTup (aCons (eC (.int 1)) (aCons (eC (.int 0)) aNil))), (eIx (eVar i) (eC (.int 0)))) :: (((eTup (aCons (eC (.int 0)) (aCons (eC (.int 1)) aNil))), (eIx (eVar i) (eC (.int 1)))) :: (((eTup (aCons (eC (.int 0)) (aCons (eC (.int 0)) aNil))), (eIx (eVar i) (eC (.int 2)))) :: []))
theorem frm_ok {i : Nat} {r : Env} {x y z : Int} (h0 : eIx (eVar i) (eC (.int 0)) r = .ok (.nw (I x))) (h1 : eIx (eVar i) (eC (.int 1)) r = .ok (.nw (I y))) (h2 : eIx (eVar i) (eC (.int 2)) r = .ok (.nw (I z))) : eDspT (frmE i) r = .ok (.nw (pO (frm x y z))) := by
  have tk : ∀ a b : Int, eTup (aCons (eC (.int a)) (aCons (eC (.int b)) aNil)) r = .ok (.nw (.fz (.tup [.int a, .int b]))) := fun a b => rfl
  have e : dspL (frmE i) r = some [(kk (1, 0), .int x), (kk (0, 1), .int y), (kk (0, 0), .int z)] := by
    unfold frmE
    simp only [dspL, tk, h0, h1, h2]
    rfl
  unfold eDspT
  rw [e]
  show (if ([kk (1, 0), kk (0, 1), kk (0, 0)] : List (List L2.Key)).Nodup ∧ 3 ≤ 15 then _ else _) = _
  rw [if_pos ⟨by decide, by omega⟩]
  rfl
theorem form_ok (ns : List Int) : M__law_form [.fz (.scr ns)] = .ok (.fz (.bl true)) := by
  let E (z1 z2 z3 : S) : Env := [scrS ns, z1, z2, z3]
  obtain ⟨f, hf⟩ : ∃ f : Nat → Int, ∀ k : Nat, f k = lawNumM (cellAt ns k) (10 ^ 60) := ⟨fun k => lawNumM (cellAt ns k) (10 ^ 60), fun _ => rfl⟩
  let xs : List Int := [f 0, f 1, f 2]
  have s1 : sSet 1 false (eLcD (iRng rng1 (aCons (eC (.int 3)) aNil)) (gN 3) [3] tYesD (eCall M__law_number (aCons (eCall M__law_cell_at (aCons (eVar 0) (aCons (eVar 3) aNil))) (aCons (eOp gPow (eC (.int 10)) (eC (.int 60))) aNil)))) (E U U U) = .nx (E (.vl true (lO xs)) U U) := by
    refine set_go (x := .nw (nO xs)) ?_ (put_nO _) (by simp [E])
    have eo : nO xs = .ls ((List.range 3).map fun k => I (f k)) := rfl
    rw [eo]
    refine lcD_gen (n := 3) (g := fun (k : Nat) => intR (k : Int)) (v := fun k => I (f k)) (rng_ok rfl (by omega)) (by simp [E]) (fun k hk => ⟨E U U (VI k), by simp [intR, wipeE, E], ?_⟩) (by omega)
    rw [hf]
    exact call2 (x := .nw (I (cellAt ns k))) (y := .nw (I (10 ^ 60))) (call2 (x := .nw (.fz (.scr ns))) (y := .nw (I k)) rfl rfl (cell_ok ns (by omega))) (e60 _) (num_ok p60.1 p60.2)
  have ixx : ∀ (j : Nat) (z2 : S), (hj : j < 3) → eIx (eVar 1) (eC (.int j)) (E (.vl true (lO xs)) z2 U) = .ok (.nw (I xs[j])) := fun j z2 hj => ix_IL (i := j) (x := .nw (lO xs)) rfl (by rw [ra_nw, er_fz]; exact asIL_lst _) (eC_ev _) rfl (by simp [xs]; omega)
  have s2 : sSet 2 false (eDspT (frmE 1)) (E (.vl true (lO xs)) U U) = .nx (E (.vl true (lO xs)) (.vl true (.fz (pD (frm (f 0) (f 1) (f 2))))) U) :=
    set_go (frm_ok (ixx 0 U (by omega)) (ixx 1 U (by omega)) (ixx 2 U (by omega))) rfl (by simp [E])
  have pf : M_pair_of_form [.fz (.tup [.int (f 0), .int (f 1), .int (f 2)])] = .ok (pO (nz (frm (f 0) (f 1) (f 2)))) := by
    let R : Env := [.vl false (.fz (.tup [.int (f 0), .int (f 1), .int (f 2)]))]
    show runF 1 B_pair_of_form _ = _
    unfold B_pair_of_form
    exact run_ret (ret_go (call1 (frm_ok (i := 0) (r := R) (x := f 0) (y := f 1) (z := f 2) rfl rfl rfl) (drop_ok (.inr rfl) (frm_n _ _ _) (by simp [frm]))))
  show runF 4 B__law_form _ = _
  unfold B__law_form
  have st : startE 4 [.fz (.scr ns)] = E U U U := rfl
  refine run_ret ?_
  rw [st]
  refine seq_go s1 (seq_go s2 (ret_go ?_))
  have et : eB gTup1 (aCons (eVar 1) aNil) (E (.vl true (lO xs)) (.vl true (.fz (pD (frm (f 0) (f 1) (f 2))))) U) = .ok (.nw (.fz (.tup [.int (f 0), .int (f 1), .int (f 2)]))) := by
    rw [b1 (x := .nw (lO xs)) rfl]; rfl
  exact call2 (x := .nw (pO (nz (frm (f 0) (f 1) (f 2))))) (y := .nw (pO (nz (frm (f 0) (f 1) (f 2))))) (call1 et pf) (call1 (x := .nw (.fz (pD (frm (f 0) (f 1) (f 2))))) rfl (ldrop_ok (.inr rfl) (frm_n _ _ _) (by simp [frm]))) (ispair_ok (.inr rfl) (.inr rfl) (Cl.nz (frm_n _ _ _)) (Cl.nz (frm_n _ _ _)) fun _ => rfl)
theorem and_ttK {f g : FE} {r : Env} (h : f r = .ok (.nw (.fz (.bl true)))) (h2 : g r = .ok (.nw (.fz (.bl true)))) : eAnd f g r = .ok (.nw (.fz (.bl true))) := by simp [eAnd, h, onB, h2]
theorem eqDd_self (p : PP) : eqDd (pD p) (pD p) = some true := by
  have h : ∀ q : PP, eqIs (pvs q) (pvs q) = true := fun q => by
    induction q with
    | nil => rfl
    | cons x q ih =>
      show (decide (x.2 = x.2) && eqIs (pvs q) (pvs q)) = true
      rw [decide_eq_true rfl, ih]; rfl
  show (if (pks p).length = (pks p).length then (if pks p = pks p ∧ eqIs (pvs p) (pvs p) = true then some true else none) else some false) = _
  rw [if_pos rfl, if_pos ⟨rfl, h p⟩]
theorem clNil : Cl [] := ⟨n0P, fun _ h => nomatch h⟩
theorem gv_nil (k : PK) : gv [] k = 0 := rfl
theorem hlaw : ∀ ns : List Int, ns.length ≤ 63 → runF 6 B_law [.fz (.scr ns)] = .ok (.fz (.bl true)) := by
  intro ns hns
  obtain ⟨P, Q, hPQ, cP, cQ, tP, tQ⟩ := two_ok hns
  have lP := tP.l
  have lQ := tQ.l
  obtain ⟨X, hX⟩ : ∃ X : Nat → PP, X = fun k => if k = 0 then P else Q := ⟨_, rfl⟩
  have X0 : X 0 = P := by rw [hX]; rfl
  have X1 : X 1 = Q := by rw [hX]; rfl
  have cX : ∀ k, Cl (X k) ∧ Tq (X k) 40 := fun k => by
    rw [hX]
    show Cl (if k = 0 then P else Q) ∧ Tq (if k = 0 then P else Q) 40
    split
    · exact ⟨cP, tP⟩
    · exact ⟨cQ, tQ⟩
  let E (z1 z2 z3 z4 z5 : S) : Env := [scrS ns, z1, z2, z3, z4, z5]
  let BO : S := .vl true (.fz (.lst [pD P, pD Q]))
  have s1 : sSet 1 false (eCall M__law_two (aCons (eVar 0) aNil)) (E U U U U U) = .nx (E BO U U U U) := set_go (call1 (x := .nw (.fz (.scr ns))) rfl hPQ) rfl (by simp [E])
  have ixn : ∀ {i : Nat} {g : FE} {r : Env} (k : Nat), k < 2 → r[i]? = some BO → g r = .ok (.nw (I k)) → eIx (eVar i) g r = .ok (.nw (.fz (pD (X k)))) := fun {i g r} k hk hr hg => by
    rcases (show k = 0 ∨ k = 1 by omega) with e | e
    · subst e; rw [X0]; exact ix_fl (ds := [pD P, pD Q]) (j := 0) hr hg rfl rfl
    · subst e; rw [X1]; exact ix_fl (ds := [pD P, pD Q]) (j := 1) hr hg rfl rfl
  have cpy : ∀ (k : Nat), k < 2 → eDCopy (eIx (eVar 1) (eC (.int (k : Int)))) (E BO U U U U) = .ok (.nw (pO (X k))) := fun k hk => by
    unfold eDCopy
    rw [ixn k hk rfl (eC_ev _), res_ok]
    show (if (pks (X k)).Nodup ∧ (pks (X k)).all smK = true then _ else _) = _
    rw [if_pos ⟨pks_nodup (cX k).1.n, (cX k).2.s.all⟩]
  have s2 : sSet 2 false (eLst (aCons (eDCopy (eIx (eVar 1) (eC (.int 0)))) (aCons (eDCopy (eIx (eVar 1) (eC (.int 1)))) aNil))) (E BO U U U U) = .nx (E BO BO U U U) := by
    have c0 := cpy 0 (by omega)
    have c1 := cpy 1 (by omega)
    rw [X0] at c0
    rw [X1] at c1
    refine set_go (x := .nw (.ls [.fz (pD P), .fz (pD Q)])) ?_ rfl (by simp [E])
    rw [eLst, aCons_ev, show eDCopy (eIx (eVar 1) (eC (.int 0))) (E BO U U U U) = _ from c0, res_ok, aCons_ev, show eDCopy (eIx (eVar 1) (eC (.int 1))) (E BO U U U U) = _ from c1]; rfl
  have b250 : ∀ k, ∀ x ∈ X k, x.2.natAbs < 2 ^ 250 := fun k => (cX k).2.b
  have lX : ∀ k, (X k).length ≤ 40 := fun k => (cX k).2.l
  have sg : ∀ k k', gv (plusP (X k) (X k')) = fun j => gv (X k) j + gv (X k') j := fun k k' => funext fun j => by rw [plus_gv (cX k).1.n, sk_gv (cX k').1.n]
  have lsg : ∀ A B : PP, (keysP A).Nodup → (keysP B).Nodup → ∀ j, gv (nz (A.foldl addP (B.foldl addP []))) j = gv A j + gv B j := fun A B nA nB j => by
    rw [gv_nz (fold_nodup A (fold_nodup B n0P)), fold_gv, fold_gv, gv_nil, sk_gv nA, sk_gv nB]; omega
  have lscl : ∀ A B : PP, Cl (nz (A.foldl addP (B.foldl addP []))) := fun A B => Cl.nz (fold_nodup A (fold_nodup B n0P))
  have mm : ∀ k k', (X k).length * (X k').length < 100000 := fun k k' => by
    have := Nat.mul_le_mul (lX k) (lX k')
    omega
  have turn : ∀ (k : Nat), k < 2 → ∀ (z4 : S), ∃ z4', (sSeq (sIf (tNotD (tOf (eCall M__law_is_pair (aCons (eCall M_pair_plus (aCons (eIx (eVar 2) (eVar 3)) (aCons (eIx (eVar 2) (eOp gSub (eC (.int 1)) (eVar 3))) aNil))) (aCons (eCall M__law_sum (aCons (eIx (eVar 1) (eC (.int 0))) (aCons (eIx (eVar 1) (eC (.int 1))) aNil))) aNil))))) (sRet (eC (.bl false))) sNil) (sSeq (sIf (tNotD (tOf (eCall M__law_is_pair (aCons (eCall M_pair_times (aCons (eIx (eVar 2) (eVar 3)) (aCons (eIx (eVar 2) (eOp gSub (eC (.int 1)) (eVar 3))) aNil))) (aCons (eCall M__law_product (aCons (eIx (eVar 1) (eC (.int 0))) (aCons (eIx (eVar 1) (eC (.int 1))) aNil))) aNil))))) (sRet (eC (.bl false))) sNil) (sSeq (sIf (tNotD (tOf (eCall M__law_is_pair (aCons (eCall M_pair_plus (aCons (eIx (eVar 2) (eVar 3)) (aCons (eIx (eVar 2) (eVar 3)) aNil))) (aCons (eCall M__law_sum (aCons (eIx (eVar 1) (eVar 3)) (aCons (eIx (eVar 1) (eVar 3)) aNil))) aNil))))) (sRet (eC (.bl false))) sNil) (sSeq (sSet 4 true (eCall M_pair_plus (aCons (eIx (eVar 2) (eVar 3)) (aCons eDNew aNil)))) (sSeq (sIf (tOrD (tNotD (tOf (eCall M__law_is_pair (aCons (eVar 4) (aCons (eIx (eVar 1) (eVar 3)) aNil))))) (tNotD (tOf (eCall M__law_is_pair (aCons (eCall M_pair_times (aCons eDNew (aCons (eIx (eVar 2) (eVar 3)) aNil))) (aCons eDNew aNil)))))) (sRet (eC (.bl false))) sNil) (sSeq (sDPutL 4 (eC (.int 7)) (eTup (aCons (eC (.int 1)) (aCons (eC (.int 1)) aNil)))) (sIf (tNotD (tOf (eCall M__law_is_pair (aCons (eCall M_pair_plus (aCons eDNew (aCons (eIx (eVar 2) (eVar 3)) aNil))) (aCons (eIx (eVar 1) (eVar 3)) aNil))))) (sRet (eC (.bl false))) sNil))))))) (E BO BO (VI k) z4 U) = .nx (E BO BO (VI k) z4' U) := fun k hk z4 => by
    obtain ⟨k', ek'⟩ : ∃ k', k' = 1 - k := ⟨_, rfl⟩
    have hk' : k' < 2 := by omega
    have a1 : ∀ z, eIx (eVar 2) (eVar 3) (E BO BO (VI k) z U) = .ok (.nw (.fz (pD (X k)))) := fun z => ixn k hk rfl rfl
    have a2 : ∀ z, eIx (eVar 2) (eOp gSub (eC (.int 1)) (eVar 3)) (E BO BO (VI k) z U) = .ok (.nw (.fz (pD (X k')))) := fun z => ixn k' hk' rfl (by rw [e_sub (a := 1) (b := (k : Int)) (eC_ev _) rfl, show (1 : Int) - k = (k' : Int) by omega])
    have c0 : ∀ z, eIx (eVar 1) (eC (.int 0)) (E BO BO (VI k) z U) = .ok (.nw (.fz (pD P))) := fun z => by
      have := ixn (i := 1) (g := eC (.int ((0 : Nat) : Int))) (r := E BO BO (VI k) z U) 0 (by omega) rfl (eC_ev _)
      rw [X0] at this; exact this
    have c1 : ∀ z, eIx (eVar 1) (eC (.int 1)) (E BO BO (VI k) z U) = .ok (.nw (.fz (pD Q))) := fun z => by
      have := ixn (i := 1) (g := eC (.int ((1 : Nat) : Int))) (r := E BO BO (VI k) z U) 1 (by omega) rfl (eC_ev _)
      rw [X1] at this; exact this
    have ck : ∀ z, eIx (eVar 1) (eVar 3) (E BO BO (VI k) z U) = .ok (.nw (.fz (pD (X k)))) := fun z => ixn k hk rfl rfl
    have tog : ∀ j, gv (X k) j + gv (X k') j = gv P j + gv Q j := fun j => by
      rcases (show k = 0 ∨ k = 1 by omega) with e | e
      · subst e; rw [show k' = 1 by omega, X0, X1]
      · subst e; rw [show k' = 0 by omega, X0, X1]; omega
    have togm : ∀ j, gv (timesP (X k) (X k')) j = gv (timesP Q P) j := fun j => by
      rcases (show k = 0 ∨ k = 1 by omega) with e | e
      · subst e; rw [show k' = 1 by omega, X0, X1]; exact times_turn P Q j
      · subst e; rw [show k' = 0 by omega, X0, X1]
    have lx := lX k
    have lx' := lX k'
    have q1 : tNotD (tOf (eCall M__law_is_pair (aCons (eCall M_pair_plus (aCons (eIx (eVar 2) (eVar 3)) (aCons (eIx (eVar 2) (eOp gSub (eC (.int 1)) (eVar 3))) aNil))) (aCons (eCall M__law_sum (aCons (eIx (eVar 1) (eC (.int 0))) (aCons (eIx (eVar 1) (eC (.int 1))) aNil))) aNil)))) (E BO BO (VI k) z4 U) = .ok false :=
      bF (call2 (call2 (a1 _) (a2 _) (plus_ok (.inr rfl) (.inr rfl) (cX k).1.n (cX k).2.s (by omega))) (call2 (c0 _) (c1 _) (lsum_ok (by omega))) (ispair_ok (.inr rfl) (.inr rfl) (plus_cl (cX k).1.n _) (lscl P Q) fun j => by rw [sg, lsg P Q cP.n cQ.n]; exact tog j))
    have q2 : tNotD (tOf (eCall M__law_is_pair (aCons (eCall M_pair_times (aCons (eIx (eVar 2) (eVar 3)) (aCons (eIx (eVar 2) (eOp gSub (eC (.int 1)) (eVar 3))) aNil))) (aCons (eCall M__law_product (aCons (eIx (eVar 1) (eC (.int 0))) (aCons (eIx (eVar 1) (eC (.int 1))) aNil))) aNil)))) (E BO BO (VI k) z4 U) = .ok false :=
      bF (call2 (call2 (a1 _) (a2 _) (times_okP (.inr rfl) (.inr rfl) (mm k k') (b250 k) (b250 k'))) (call2 (c0 _) (c1 _) (lprod_ok (.inr rfl) (.inr rfl) (by have := mm 1 0; rw [X0, X1] at this; exact this) tP.b tQ.b)) (ispair_ok (.inr rfl) (.inr rfl) (times_cl _ _) (times_cl _ _) togm))
    have q3 : tNotD (tOf (eCall M__law_is_pair (aCons (eCall M_pair_plus (aCons (eIx (eVar 2) (eVar 3)) (aCons (eIx (eVar 2) (eVar 3)) aNil))) (aCons (eCall M__law_sum (aCons (eIx (eVar 1) (eVar 3)) (aCons (eIx (eVar 1) (eVar 3)) aNil))) aNil)))) (E BO BO (VI k) z4 U) = .ok false :=
      bF (call2 (call2 (a1 _) (a1 _) (plus_ok (.inr rfl) (.inr rfl) (cX k).1.n (cX k).2.s (by omega))) (call2 (ck _) (ck _) (lsum_ok (by omega))) (ispair_ok (.inr rfl) (.inr rfl) (plus_cl (cX k).1.n _) (lscl _ _) fun j => by rw [sg, lsg _ _ (cX k).1.n (cX k).1.n]))
    let T : PP := plusP (X k) []
    have cT : Cl T := plus_cl (cX k).1.n []
    have gT' : ∀ j, gv T j = gv (X k) j := fun j => by
      show gv (plusP (X k) []) j = _
      rw [plus_gv (cX k).1.n]
      show gv (X k) j + 0 = _
      omega
    have s4 : sSet 4 true (eCall M_pair_plus (aCons (eIx (eVar 2) (eVar 3)) (aCons eDNew aNil))) (E BO BO (VI k) z4 U) = .nx (E BO BO (VI k) (.vl true (pO T)) U) :=
      set_go (x := .nw (pO T)) (call2 (y := .nw (pO [])) (a1 _) rfl (plus_ok (.inr rfl) (.inr rfl) (cX k).1.n (cX k).2.s (by simp; omega))) rfl (by simp [E])
    have q5 : tOrD (tNotD (tOf (eCall M__law_is_pair (aCons (eVar 4) (aCons (eIx (eVar 1) (eVar 3)) aNil))))) (tNotD (tOf (eCall M__law_is_pair (aCons (eCall M_pair_times (aCons eDNew (aCons (eIx (eVar 2) (eVar 3)) aNil))) (aCons eDNew aNil))))) (E BO BO (VI k) (.vl true (pO T)) U) = .ok false := by
      refine or_ff (bF (call2 (x := .vw (pO T)) rfl (ck _) (ispair_ok (.inl rfl) (.inr rfl) cT (cX k).1 gT'))) (bF (call2 (y := .nw (pO [])) (call2 (x := .nw (pO [])) rfl (a1 _) (times_okP (P := []) (.inr rfl) (.inr rfl) (by simp) (fun _ h => nomatch h) (b250 k))) rfl (ispair_ok (.inr rfl) (.inr rfl) (times_cl _ _) clNil fun j => ?_)))
      rw [times_gv]; rfl
    have lT : T.length < 100000 := by
      have h1 : T.length ≤ (X k).length := by
        show (nz (X k)).length ≤ _
        exact List.length_filter_le _ _
      omega
    have s6 : sDPutL 4 (eC (.int 7)) (eTup (aCons (eC (.int 1)) (aCons (eC (.int 1)) aNil))) (E BO BO (VI k) (.vl true (pO T)) U) = .nx (E BO BO (VI k) (.vl true (pO (stp T (1, 1) 7))) U) :=
      dput_go (i := 4) (p := T) (k := (1, 1)) (v := 7) (x := .nw (I 7)) (eC_ev _) rfl rfl (y := .nw (.fz (.tup [.int 1, .int 1]))) rfl rfl cT.n lT
    have q7 : tNotD (tOf (eCall M__law_is_pair (aCons (eCall M_pair_plus (aCons eDNew (aCons (eIx (eVar 2) (eVar 3)) aNil))) (aCons (eIx (eVar 1) (eVar 3)) aNil)))) (E BO BO (VI k) (.vl true (pO (stp T (1, 1) 7))) U) = .ok false :=
      bF (call2 (call2 (x := .nw (pO [])) rfl (a1 _) (plus_ok (P := []) (.inr rfl) (.inr rfl) n0P (fun _ h => nomatch h) (by simp; omega))) (ck _) (ispair_ok (.inr rfl) (.inr rfl) (plus_cl n0P _) (cX k).1 fun j => by rw [plus_gv n0P, gv_nil, sk_gv (cX k).1.n]; omega))
    exact ⟨_, seq_go (if_f q1 rfl) (seq_go (if_f q2 rfl) (seq_go (if_f q3 rfl) (seq_go s4 (seq_go (if_f q5 rfl) (seq_go s6 (if_f q7 rfl))))))⟩
  obtain ⟨w0, t0⟩ := turn 0 (by omega) U
  obtain ⟨w1, t1⟩ := turn 1 (by omega) w0
  have d0 : ∀ z3 z4 z5, eIx (eVar 2) (eC (.int 0)) (E BO BO z3 z4 z5) = .ok (.nw (.fz (pD P))) := fun z3 z4 z5 => by
    have := ixn (i := 2) (g := eC (.int ((0 : Nat) : Int))) (r := E BO BO z3 z4 z5) 0 (by omega) rfl (eC_ev _)
    rw [X0] at this; exact this
  have d1 : ∀ z3 z4 z5, eIx (eVar 1) (eC (.int 0)) (E BO BO z3 z4 z5) = .ok (.nw (.fz (pD P))) := fun z3 z4 z5 => by
    have := ixn (i := 1) (g := eC (.int ((0 : Nat) : Int))) (r := E BO BO z3 z4 z5) 0 (by omega) rfl (eC_ev _)
    rw [X0] at this; exact this
  have m00 : P.length * P.length < 100000 := by have := mm 0 0; rw [X0] at this; exact this
  let TT : PP := timesP P P
  have tm := times_okP (o1 := .fz (pD P)) (o2 := .fz (pD P)) (.inr rfl) (.inr rfl) m00 tP.b tP.b
  have tl := lprod_ok (o1 := .fz (pD P)) (o2 := .fz (pD P)) (.inr rfl) (.inr rfl) m00 tP.b tP.b
  let KK : S := VI ((1 : Nat) : Int)
  have s8 : sSet 4 true (eCall M_pair_times (aCons (eIx (eVar 2) (eC (.int 0))) (aCons (eIx (eVar 2) (eC (.int 0))) aNil))) (E BO BO KK w1 U) = .nx (E BO BO KK (.vl true (pO TT)) U) := set_go (x := .nw (pO TT)) (call2 (d0 _ _ _) (d0 _ _ _) tm) rfl (by simp [E])
  have s9 : sSet 5 false (eCall M__law_product (aCons (eIx (eVar 1) (eC (.int 0))) (aCons (eIx (eVar 1) (eC (.int 0))) aNil))) (E BO BO KK (.vl true (pO TT)) U) = .nx (E BO BO KK (.vl true (pO TT)) (.vl true (.fz (pD TT)))) := set_go (x := .nw (pO TT)) (call2 (d1 _ _ _) (d1 _ _ _) tl) rfl (by simp [E])
  have q10 : tNotD (tOf (eCall M__law_is_pair (aCons (eVar 4) (aCons (eVar 5) aNil)))) (E BO BO KK (.vl true (pO TT)) (.vl true (.fz (pD TT)))) = .ok false := bF (call2 (x := .vw (pO TT)) (y := .nw (.fz (pD TT))) rfl rfl (ispair_ok (.inl rfl) (.inr rfl) (times_cl _ _) (times_cl _ _) fun _ => rfl))
  let FE' : Env := E BO BO KK (.vl true (pO [])) (.vl true (.fz (pD TT)))
  have f1 : eCall M__law_is_pair (aCons (eCall M_pair_times (aCons (eIx (eVar 2) (eC (.int 0))) (aCons (eIx (eVar 2) (eC (.int 0))) aNil))) (aCons (eVar 5) aNil)) FE' = .ok (.nw (.fz (.bl true))) := call2 (y := .nw (.fz (pD TT))) (call2 (d0 _ _ _) (d0 _ _ _) tm) rfl (ispair_ok (.inr rfl) (.inr rfl) (times_cl _ _) (times_cl _ _) fun _ => rfl)
  have f2 : eOp gEqT (eVar 2) (eVar 1) FE' = .ok (.nw (.fz (.bl true))) := by
    rw [op_of (x := .nw (.fz (.lst [pD P, pD Q]))) (y := .nw (.fz (.lst [pD P, pD Q]))) rfl rfl]
    show (match (if [pD P, pD Q].length = [pD P, pD Q].length ∧ ([eqDd (pD P) (pD P), eqDd (pD Q) (pD Q)].all (· == some true)) = true then some true else none) with | some k => fzR (.bl k) | none => Res.bad) = _
    rw [eqDd_self, eqDd_self, if_pos ⟨rfl, rfl⟩]; rfl
  have f3 : eCall M__law_form (aCons (eVar 0) aNil) FE' = .ok (.nw (.fz (.bl true))) := call1 (x := .nw (.fz (.scr ns))) rfl (form_ok ns)
  unfold B_law
  have st : startE 6 [.fz (.scr ns)] = E U U U U U := rfl
  refine run_ret ?_
  rw [st]
  refine seq_go s1 (seq_go s2 (seq_go (r' := E BO BO KK w1 U) (for_go (its := [intR ((0 : Nat) : Int), intR ((1 : Nat) : Int)]) rfl (forL_two (r1 := E BO BO (VI ((0 : Nat) : Int)) U U) (r2 := E BO BO (VI ((0 : Nat) : Int)) w0 U) (r3 := E BO BO KK w0 U) rfl t0 rfl t1)) (seq_go s8 (seq_go s9 (seq_go (if_f q10 rfl) (seq_go (r' := FE') rfl (ret_go ?_)))))))
  exact and_ttK f1 (and_ttK f2 f3)
end
section
open PySem PySem.Spec PyProof.Rows L2 DL
namespace Row
variable {P : Program} {w : World} {K : PySem.W.Frag} {mg : Str → Option Value} {base : Heap} {f : Addr} {fd : FuncData}
theorem ok__law_no_noughts (F : FnP K "_law_no_noughts" s__law_no_noughts f fd) (hm : mg "_law_no_noughts" = some (.ref f))  : Def P w K mg base "_law_no_noughts" 1 1 M__law_no_noughts :=
  (Def.ofD (N := N__law_no_noughts) F sc__law_no_noughts hm (FunD.bindsN (ps := ["_law_some"]) F fun _ _ _ _ _ _ us hl => match us, hl with | [_], _ => rfl) rfl B__law_no_noughts (fun cdv A outer s H E Hf B => (dss_cons (ds_set (i := 1) true sc__law_no_noughts.nd rfl (by first | exact Or.inl rfl | exact Or.inr rfl) de_dnew) (dss_cons (ds_forDI (i := 0) (m := 2) (n := 3) B sc__law_no_noughts.nd (pv 0) rfl rfl (by first | exact Or.inl rfl | exact Or.inr rfl) (by first | exact Or.inl rfl | exact Or.inr rfl) (by first | exact Or.inl rfl | exact Or.inr rfl) (by first | exact Or.inl rfl | exact Or.inr rfl) (fun c B => (dss_one (ds_if (dt_ne B (de_var (pv 3)) de_int) (dss_one (ds_dputL (i := 1) B (pv 1) (de_var (pv 3)) (de_var (pv 2)))) dss_nil)))) (dss_one (ds_retV (pv 1))))))).imp (fun os h => .inr rfl)
theorem ok__law_number (F : FnP K "_law_number" s__law_number f fd) (hm : mg "_law_number" = some (.ref f))  : Def P w K mg base "_law_number" 1 2 M__law_number :=
  (Def.ofD (N := N__law_number) F sc__law_number hm (FunD.bindsN (ps := ["_law_cell", "_law_most"]) F fun _ _ _ _ _ _ us hl => match us, hl with | [_, _], _ => rfl) rfl B__law_number (fun cdv A outer s H E Hf B => (dss_cons (ds_if (dt_eq B (de_mod (de_var (pv 0)) de_int) de_int) (dss_one (ds_ret (de_addA (de_sub (de_mod (de_fdiv (de_var (pv 0)) de_int) (de_sub (de_mulA de_int (de_var (pv 1))) de_int)) (de_var (pv 1))) de_int))) dss_nil) (dss_cons (ds_if (dt_eq B (de_mod (de_var (pv 0)) de_int) de_int) (dss_one (ds_ret (de_sub (de_mod (de_fdiv (de_var (pv 0)) de_int) de_int) de_int))) dss_nil) (dss_one (ds_ret (de_sub (de_mod (de_fdiv (de_var (pv 0)) de_int) de_int) de_int))))))).imp imp__law_number
theorem ok__law_cell_at (F : FnP K "_law_cell_at" s__law_cell_at f fd) (hm : mg "_law_cell_at" = some (.ref f)) (h_len : mg "len" = none) : Def P w K mg base "_law_cell_at" 1 2 M__law_cell_at :=
  (Def.ofD (N := N__law_cell_at) F sc__law_cell_at hm (FunD.bindsN (ps := ["_law_script", "_law_k"]) F fun _ _ _ _ _ _ us hl => match us, hl with | [_, _], _ => rfl) rfl B__law_cell_at (fun cdv A outer s H E Hf B => (dss_cons (ds_if (dt_lt (de_var (pv 1)) (de_len rfl h_len (da_cons (de_var (pv 0)) da_nil))) (dss_one (ds_ret (de_ix (de_var (pv 0)) (de_var (pv 1))))) dss_nil) (dss_one (ds_ret de_int))))).imp imp__law_cell_at
theorem ok_without_noughts (F : FnP K "without_noughts" s_without_noughts f fd) (hm : mg "without_noughts" = some (.ref f))  : Def P w K mg base "without_noughts" 1 1 M_without_noughts :=
  (Def.ofD (N := N_without_noughts) F sc_without_noughts hm (FunD.bindsN (ps := ["one"]) F fun _ _ _ _ _ _ us hl => match us, hl with | [_], _ => rfl) rfl B_without_noughts (fun cdv A outer s H E Hf B => (dss_cons (ds_set (i := 1) true sc_without_noughts.nd rfl (by first | exact Or.inl rfl | exact Or.inr rfl) de_dnew) (dss_cons (ds_forDI (i := 0) (m := 2) (n := 3) B sc_without_noughts.nd (pv 0) rfl rfl (by first | exact Or.inl rfl | exact Or.inr rfl) (by first | exact Or.inl rfl | exact Or.inr rfl) (by first | exact Or.inl rfl | exact Or.inr rfl) (by first | exact Or.inl rfl | exact Or.inr rfl) (fun c B => (dss_one (ds_if (dt_ne B (de_var (pv 3)) de_int) (dss_one (ds_dputL (i := 1) B (pv 1) (de_var (pv 3)) (de_var (pv 2)))) dss_nil)))) (dss_one (ds_retV (pv 1))))))).imp (fun os h => .inr rfl)
theorem ok__law_whole (F : FnP K "_law_whole" s__law_whole f fd) (hm : mg "_law_whole" = some (.ref f)) (h_bool : mg "bool" = none) (h_int : mg "int" = none) (h_isinstance : mg "isinstance" = none) : Def P w K mg base "_law_whole" 1 1 M__law_whole :=
  (Def.ofD (N := N__law_whole) F sc__law_whole hm (FunD.bindsN (ps := ["_law_found"]) F fun _ _ _ _ _ _ us hl => match us, hl with | [_], _ => rfl) rfl B__law_whole (fun cdv A outer s H E Hf B => (dss_one (ds_ret (de_and (de_isi .int rfl h_isinstance (pe_bltn rfl h_int (by decide +kernel) rfl) (de_var (pv 0))) (de_one (de_not (de_isi .bl rfl h_isinstance (pe_bltn rfl h_bool (by decide +kernel) rfl) (de_var (pv 0)))))))))).imp imp__law_whole
theorem ok__law_mixed (F : FnP K "_law_mixed" s__law_mixed f fd) (hm : mg "_law_mixed" = some (.ref f)) (h_abs : mg "abs" = none) (h_range : mg "range" = none) : Def P w K mg base "_law_mixed" 1 2 M__law_mixed :=
  (Def.ofD (N := N__law_mixed) F sc__law_mixed hm (FunD.bindsN (ps := ["_law_cell", "_law_k"]) F fun _ _ _ _ _ _ us hl => match us, hl with | [_, _], _ => rfl) rfl B__law_mixed (fun cdv A outer s H E Hf B => (dss_cons (ds_if (dt_eq B (de_mod (de_var (pv 0)) de_int) de_int) (dss_cons (ds_set (i := 2) false sc__law_mixed.nd rfl (by first | exact Or.inl rfl | exact Or.inr rfl) (de_fdiv (de_B call_abs pc_abs rfl h_abs (by decide +kernel) (da_cons (de_var (pv 0)) da_nil)) de_int)) (dss_cons (ds_for B (di_rng1 rfl h_range (da_cons (de_var (pv 1)) da_nil)) (dg_name (i := 3) (vs := [3]) sc__law_mixed.nd rfl (by first | exact Or.inl rfl | exact Or.inr rfl)) (dss_one (ds_set (i := 2) false sc__law_mixed.nd rfl (by first | exact Or.inl rfl | exact Or.inr rfl) (de_fdiv (de_var (pv 2)) (de_pow de_int de_int))))) (dss_one (ds_ret (de_var (pv 2)))))) dss_nil) (dss_cons (ds_set (i := 2) false sc__law_mixed.nd rfl (by first | exact Or.inl rfl | exact Or.inr rfl) (de_mod (de_addA (de_var (pv 0)) (de_mulA de_int (de_var (pv 1)))) de_int)) (dss_cons (ds_set (i := 2) false sc__law_mixed.nd rfl (by first | exact Or.inl rfl | exact Or.inr rfl) (de_mod (de_addA (de_addA (de_mulA (de_var (pv 2)) (de_var (pv 2))) (de_mulA de_int (de_var (pv 2)))) (de_var (pv 1))) de_int)) (dss_one (ds_ret (de_mod (de_mulA (de_var (pv 2)) (de_var (pv 2))) de_int)))))))).imp (fun os h => .inr rfl)
theorem ok_pair_times (F : FnP K "pair_times" s_pair_times f fd) (hm : mg "pair_times" = some (.ref f)) (D_without_noughts : Def P w K mg base "without_noughts" 1 1 M_without_noughts) : Def P w K mg base "pair_times" 2 2 M_pair_times :=
  (Def.ofD (N := N_pair_times) F sc_pair_times hm (FunD.bindsN (ps := ["one", "other"]) F fun _ _ _ _ _ _ us hl => match us, hl with | [_, _], _ => rfl) rfl B_pair_times (fun cdv A outer s H E Hf B => (dss_cons (ds_set (i := 2) true sc_pair_times.nd rfl (by first | exact Or.inl rfl | exact Or.inr rfl) de_dnew) (dss_cons (ds_forDI (i := 0) (m := 3) (n := 4) B sc_pair_times.nd (pv 0) rfl rfl (by first | exact Or.inl rfl | exact Or.inr rfl) (by first | exact Or.inl rfl | exact Or.inr rfl) (by first | exact Or.inl rfl | exact Or.inr rfl) (by first | exact Or.inl rfl | exact Or.inr rfl) (fun c B => (dss_one (ds_forDI (i := 1) (m := 5) (n := 6) B sc_pair_times.nd (pv 1) rfl rfl (by first | exact Or.inl rfl | exact Or.inr rfl) (by first | exact Or.inl rfl | exact Or.inr rfl) (by first | exact Or.inl rfl | exact Or.inr rfl) (by first | exact Or.inl rfl | exact Or.inr rfl) (fun c B => (dss_cons (ds_set (i := 7) false sc_pair_times.nd rfl (by first | exact Or.inl rfl | exact Or.inr rfl) (de_tup (da_cons (de_addA (de_ix (de_var (pv 3)) de_int) (de_ix (de_var (pv 5)) de_int)) (da_cons (de_addA (de_ix (de_var (pv 3)) de_int) (de_ix (de_var (pv 5)) de_int)) da_nil)))) (dss_one (ds_dputL (i := 2) B (pv 2) (de_addA (de_dget2 (i := 2) B (pv 2) (de_var (pv 7)) pe_int ⟨rfl, rfl, rfl, rfl⟩) (de_mulA (de_var (pv 4)) (de_var (pv 6)))) (de_var (pv 7)))))))))) (dss_one (ds_ret (de_call D_without_noughts B (by decide) rfl (da_cons (de_var (pv 2)) da_nil) rfl (hlen := (ar_cons ar_nil))))))))).imp (fun os h => .inr rfl)
theorem ok__law_product (F : FnP K "_law_product" s__law_product f fd) (hm : mg "_law_product" = some (.ref f)) (D__law_no_noughts : Def P w K mg base "_law_no_noughts" 1 1 M__law_no_noughts) : Def P w K mg base "_law_product" 2 2 M__law_product :=
  (Def.ofD (N := N__law_product) F sc__law_product hm (FunD.bindsN (ps := ["_law_one", "_law_other"]) F fun _ _ _ _ _ _ us hl => match us, hl with | [_, _], _ => rfl) rfl B__law_product (fun cdv A outer s H E Hf B => (dss_cons (ds_set (i := 2) true sc__law_product.nd rfl (by first | exact Or.inl rfl | exact Or.inr rfl) de_dnew) (dss_cons (ds_forDI (i := 1) (m := 3) (n := 4) B sc__law_product.nd (pv 1) rfl rfl (by first | exact Or.inl rfl | exact Or.inr rfl) (by first | exact Or.inl rfl | exact Or.inr rfl) (by first | exact Or.inl rfl | exact Or.inr rfl) (by first | exact Or.inl rfl | exact Or.inr rfl) (fun c B => (dss_one (ds_forDI (i := 0) (m := 5) (n := 6) B sc__law_product.nd (pv 0) rfl rfl (by first | exact Or.inl rfl | exact Or.inr rfl) (by first | exact Or.inl rfl | exact Or.inr rfl) (by first | exact Or.inl rfl | exact Or.inr rfl) (by first | exact Or.inl rfl | exact Or.inr rfl) (fun c B => (dss_cons (ds_set (i := 7) false sc__law_product.nd rfl (by first | exact Or.inl rfl | exact Or.inr rfl) (de_tup (da_cons (de_addA (de_ix (de_var (pv 3)) de_int) (de_ix (de_var (pv 5)) de_int)) (da_cons (de_addA (de_ix (de_var (pv 3)) de_int) (de_ix (de_var (pv 5)) de_int)) da_nil)))) (dss_one (ds_dputL (i := 2) B (pv 2) (de_addA (de_dget2 (i := 2) B (pv 2) (de_var (pv 7)) pe_int ⟨rfl, rfl, rfl, rfl⟩) (de_mulA (de_var (pv 4)) (de_var (pv 6)))) (de_var (pv 7)))))))))) (dss_one (ds_ret (de_call D__law_no_noughts B (by decide) rfl (da_cons (de_var (pv 2)) da_nil) rfl (hlen := (ar_cons ar_nil))))))))).imp (fun os h => .inr rfl)
theorem ok_pair_plus (F : FnP K "pair_plus" s_pair_plus f fd) (hm : mg "pair_plus" = some (.ref f)) (h_dict : mg "dict" = none) (D_without_noughts : Def P w K mg base "without_noughts" 1 1 M_without_noughts) : Def P w K mg base "pair_plus" 2 2 M_pair_plus :=
  (Def.ofD (N := N_pair_plus) F sc_pair_plus hm (FunD.bindsN (ps := ["one", "other"]) F fun _ _ _ _ _ _ us hl => match us, hl with | [_, _], _ => rfl) rfl B_pair_plus (fun cdv A outer s H E Hf B => (dss_cons (ds_set (i := 2) true sc_pair_plus.nd rfl (by first | exact Or.inl rfl | exact Or.inr rfl) (de_dcopy B rfl h_dict (de_var (pv 0)))) (dss_cons (ds_forDI (i := 1) (m := 3) (n := 4) B sc_pair_plus.nd (pv 1) rfl rfl (by first | exact Or.inl rfl | exact Or.inr rfl) (by first | exact Or.inl rfl | exact Or.inr rfl) (by first | exact Or.inl rfl | exact Or.inr rfl) (by first | exact Or.inl rfl | exact Or.inr rfl) (fun c B => (dss_one (ds_dputL (i := 2) B (pv 2) (de_addA (de_dget2 (i := 2) B (pv 2) (de_var (pv 3)) pe_int ⟨rfl, rfl, rfl, rfl⟩) (de_var (pv 4))) (de_var (pv 3)))))) (dss_one (ds_ret (de_call D_without_noughts B (by decide) rfl (da_cons (de_var (pv 2)) da_nil) rfl (hlen := (ar_cons ar_nil))))))))).imp (fun os h => .inr rfl)
theorem ok__law_is_pair (F : FnP K "_law_is_pair" s__law_is_pair f fd) (hm : mg "_law_is_pair" = some (.ref f)) (h_dict : mg "dict" = none) (h_isinstance : mg "isinstance" = none) (h_len : mg "len" = none) (h_tuple : mg "tuple" = none) (D__law_whole : Def P w K mg base "_law_whole" 1 1 M__law_whole) : Def P w K mg base "_law_is_pair" 2 2 M__law_is_pair :=
  (Def.ofD (N := N__law_is_pair) F sc__law_is_pair hm (FunD.bindsN (ps := ["_law_found", "_law_due"]) F fun _ _ _ _ _ _ us hl => match us, hl with | [_, _], _ => rfl) rfl B__law_is_pair (fun cdv A outer s H E Hf B => (dss_cons (ds_if (dt_w (dw_or (dt_not (dt_val (de_isD rfl h_isinstance (pe_bltn rfl h_dict (by decide +kernel) rfl) (de_var (pv 0))))) (dw_or1 (dt_ne B (de_dlen rfl h_len (de_var (pv 0))) (de_dlen rfl h_len (de_var (pv 1))))))) (dss_one (ds_ret de_bl)) dss_nil) (dss_cons (ds_forDI (i := 0) (m := 2) (n := 3) B sc__law_is_pair.nd (pv 0) rfl rfl (by first | exact Or.inl rfl | exact Or.inr rfl) (by first | exact Or.inl rfl | exact Or.inr rfl) (by first | exact Or.inl rfl | exact Or.inr rfl) (by first | exact Or.inl rfl | exact Or.inr rfl) (fun c B => (dss_cons (ds_if (dt_w (dw_or (dt_not (dt_val (de_isi .tup rfl h_isinstance (pe_bltn rfl h_tuple (by decide +kernel) rfl) (de_var (pv 2))))) (dw_or (dt_ne B (de_len rfl h_len (da_cons (de_var (pv 2)) da_nil)) de_int) (dw_or1 (dt_dnin B (de_var (pv 2)) (de_var (pv 1))))))) (dss_one (ds_ret de_bl)) dss_nil) (dss_cons (ds_if (dt_w (dw_or (dt_not (dt_val (de_call D__law_whole B (by decide) rfl (da_cons (de_ix (de_var (pv 2)) de_int) da_nil) rfl (hlen := (ar_cons ar_nil))))) (dw_or1 (dt_not (dt_val (de_call D__law_whole B (by decide) rfl (da_cons (de_ix (de_var (pv 2)) de_int) da_nil) rfl (hlen := (ar_cons ar_nil)))))))) (dss_one (ds_ret de_bl)) dss_nil) (dss_one (ds_if (dt_w (dw_or (dt_not (dt_val (de_call D__law_whole B (by decide) rfl (da_cons (de_var (pv 3)) da_nil) rfl (hlen := (ar_cons ar_nil))))) (dw_or1 (dt_ne B (de_var (pv 3)) (de_dix B (de_var (pv 1)) (de_var (pv 2)) (fun _ _ => rfl)))))) (dss_one (ds_ret de_bl)) dss_nil)))))) (dss_one (ds_ret de_bl)))))).imp (fun os h => .inr rfl)
theorem ok__law_sum (F : FnP K "_law_sum" s__law_sum f fd) (hm : mg "_law_sum" = some (.ref f)) (D__law_no_noughts : Def P w K mg base "_law_no_noughts" 1 1 M__law_no_noughts) : Def P w K mg base "_law_sum" 2 2 M__law_sum :=
  (Def.ofD (N := N__law_sum) F sc__law_sum hm (FunD.bindsN (ps := ["_law_one", "_law_other"]) F fun _ _ _ _ _ _ us hl => match us, hl with | [_, _], _ => rfl) rfl B__law_sum (fun cdv A outer s H E Hf B => (dss_cons (ds_set (i := 2) true sc__law_sum.nd rfl (by first | exact Or.inl rfl | exact Or.inr rfl) de_dnew) (dss_cons (ds_for B (di_list (de_lst (da_cons (de_var (pv 1)) (da_cons (de_var (pv 0)) da_nil)))) (dg_name (i := 3) (vs := [3]) sc__law_sum.nd rfl (by first | exact Or.inl rfl | exact Or.inr rfl)) (dss_one (ds_forDI (i := 3) (m := 4) (n := 5) B sc__law_sum.nd (pv 3) rfl rfl (by first | exact Or.inl rfl | exact Or.inr rfl) (by first | exact Or.inl rfl | exact Or.inr rfl) (by first | exact Or.inl rfl | exact Or.inr rfl) (by first | exact Or.inl rfl | exact Or.inr rfl) (fun c B => (dss_one (ds_dputL (i := 2) B (pv 2) (de_addA (de_dget2 (i := 2) B (pv 2) (de_var (pv 4)) pe_int ⟨rfl, rfl, rfl, rfl⟩) (de_var (pv 5))) (de_var (pv 4)))))))) (dss_one (ds_ret (de_call D__law_no_noughts B (by decide) rfl (da_cons (de_var (pv 2)) da_nil) rfl (hlen := (ar_cons ar_nil))))))))).imp (fun os h => .inr rfl)
theorem ok_pair_of_form (F : FnP K "pair_of_form" s_pair_of_form f fd) (hm : mg "pair_of_form" = some (.ref f)) (D_without_noughts : Def P w K mg base "without_noughts" 1 1 M_without_noughts) : Def P w K mg base "pair_of_form" 2 1 M_pair_of_form :=
  (Def.ofD (N := N_pair_of_form) F sc_pair_of_form hm (FunD.bindsN (ps := ["form"]) F fun _ _ _ _ _ _ us hl => match us, hl with | [_], _ => rfl) rfl B_pair_of_form (fun cdv A outer s H E Hf B => (dss_one (ds_ret (de_call D_without_noughts B (by decide) rfl (da_cons (de_dspT B (dps_cons (de_tup (da_cons de_int (da_cons de_int da_nil))) (de_ix (de_var (pv 0)) de_int) (dps_cons (de_tup (da_cons de_int (da_cons de_int da_nil))) (de_ix (de_var (pv 0)) de_int) (dps_cons (de_tup (da_cons de_int (da_cons de_int da_nil))) (de_ix (de_var (pv 0)) de_int) dps_nil)))) da_nil) rfl (hlen := (ar_cons ar_nil))))))).imp (fun os h => .inr rfl)
theorem ok__law_powers (F : FnP K "_law_powers" s__law_powers f fd) (hm : mg "_law_powers" = some (.ref f)) (D__law_mixed : Def P w K mg base "_law_mixed" 1 2 M__law_mixed) : Def P w K mg base "_law_powers" 2 1 M__law_powers :=
  (Def.ofD (N := N__law_powers) F sc__law_powers hm (FunD.bindsN (ps := ["_law_cell"]) F fun _ _ _ _ _ _ us hl => match us, hl with | [_], _ => rfl) rfl B__law_powers (fun cdv A outer s H E Hf B => (dss_cons (ds_set (i := 1) false sc__law_powers.nd rfl (by first | exact Or.inl rfl | exact Or.inr rfl) (de_call D__law_mixed B (by decide) rfl (da_cons (de_var (pv 0)) (da_cons de_int da_nil)) rfl (hlen := (ar_cons (ar_cons ar_nil))))) (dss_cons (ds_if (dt_eq B (de_mod (de_var (pv 1)) de_int) de_int) (dss_one (ds_ret (de_tup (da_cons (de_mod (de_fdiv (de_var (pv 1)) de_int) de_int) (da_cons (de_mod (de_fdiv (de_var (pv 1)) de_int) de_int) da_nil))))) dss_nil) (dss_one (ds_ret (de_tup (da_cons (de_mod (de_fdiv (de_var (pv 1)) de_int) de_int) (da_cons (de_mod (de_fdiv (de_var (pv 1)) de_int) de_int) da_nil))))))))).imp (fun os h => .inr rfl)
theorem ok__law_two (F : FnP K "_law_two" s__law_two f fd) (hm : mg "_law_two" = some (.ref f)) (h_len : mg "len" = none) (h_list : mg "list" = none) (h_min : mg "min" = none) (h_range : mg "range" = none) (D__law_powers : Def P w K mg base "_law_powers" 2 1 M__law_powers) (D__law_number : Def P w K mg base "_law_number" 1 2 M__law_number) (D__law_no_noughts : Def P w K mg base "_law_no_noughts" 1 1 M__law_no_noughts) (D__law_cell_at : Def P w K mg base "_law_cell_at" 1 2 M__law_cell_at) (D__law_mixed : Def P w K mg base "_law_mixed" 1 2 M__law_mixed) : Def P w K mg base "_law_two" 3 1 M__law_two :=
  (Def.ofD (N := N__law_two) F sc__law_two hm (FunD.bindsN (ps := ["_law_script"]) F fun _ _ _ _ _ _ us hl => match us, hl with | [_], _ => rfl) rfl B__law_two (fun cdv A outer s H E Hf B => (dss_cons (ds_set (i := 1) true sc__law_two.nd rfl (by first | exact Or.inl rfl | exact Or.inr rfl) (de_lstO (dao_cons de_dnew (dao_cons de_dnew dao_nil)))) (dss_cons (ds_for B (di_rng3 rfl h_range (da_cons de_int (da_cons (de_B (call_min2 rfl) pc_min2 rfl h_min (by decide +kernel) (da_cons (de_len rfl h_len (da_cons (de_var (pv 0)) da_nil)) (da_cons de_int da_nil))) (da_cons de_int da_nil)))) (dg_name (i := 2) (vs := [2]) sc__law_two.nd rfl (by first | exact Or.inl rfl | exact Or.inr rfl)) (dss_cons (ds_set (i := 3) false sc__law_two.nd rfl (by first | exact Or.inl rfl | exact Or.inr rfl) (de_call D__law_powers B (by decide) rfl (da_cons (de_call D__law_cell_at B (by decide) rfl (da_cons (de_var (pv 0)) (da_cons (de_addA (de_var (pv 2)) de_int) da_nil)) rfl (hlen := (ar_cons (ar_cons ar_nil)))) da_nil) rfl (hlen := (ar_cons ar_nil)))) (dss_cons (ds_set (i := 4) false sc__law_two.nd rfl (by first | exact Or.inl rfl | exact Or.inr rfl) (de_call D__law_number B (by decide) rfl (da_cons (de_ix (de_var (pv 0)) (de_var (pv 2))) (da_cons (de_pow de_int de_int) da_nil)) rfl (hlen := (ar_cons (ar_cons ar_nil))))) (dss_cons (ds_set (i := 5) false sc__law_two.nd rfl (by first | exact Or.inl rfl | exact Or.inr rfl) (de_mod (de_fdiv (de_var (pv 2)) de_int) de_int)) (dss_cons (ds_if (dt_w (dw_and (dt_eq B (de_var (pv 5)) de_int) (dw_and (dt_eq B (de_mod (de_call D__law_mixed B (by decide) rfl (da_cons (de_ix (de_var (pv 0)) (de_var (pv 2))) (da_cons de_int da_nil)) rfl (hlen := (ar_cons (ar_cons ar_nil)))) de_int) de_int) (dw_and1 (dt_gt (de_dlen rfl h_len (de_ix (de_var (pv 1)) de_int)) de_int))))) (dss_cons (ds_keyAt (m := 3) sc__law_two.nd rfl (by first | exact Or.inl rfl | exact Or.inr rfl) rfl h_list (de_ix (de_var (pv 1)) de_int) (de_mod (de_call D__law_mixed B (by decide) rfl (da_cons (de_ix (de_var (pv 0)) (de_var (pv 2))) (da_cons de_int da_nil)) rfl (hlen := (ar_cons (ar_cons ar_nil)))) (de_dlen rfl h_len (de_ix (de_var (pv 1)) de_int)))) (dss_one (ds_set (i := 4) false sc__law_two.nd rfl (by first | exact Or.inl rfl | exact Or.inr rfl) (de_neg (de_dix B (de_ix (de_var (pv 1)) de_int) (de_var (pv 3)) (fun _ _ => rfl)))))) dss_nil) (dss_one (ds_dputP (i := 1) B (dpa_ix (i := 1) (dpa_var (i := 1) (pv 1)) (de_var (pv 5))) (de_var (pv 4)) (de_var (pv 3))))))))) (dss_one (ds_ret (de_lst (da_cons (de_call D__law_no_noughts B (by decide) rfl (da_cons (de_ix (de_var (pv 1)) de_int) da_nil) rfl (hlen := (ar_cons ar_nil))) (da_cons (de_call D__law_no_noughts B (by decide) rfl (da_cons (de_ix (de_var (pv 1)) de_int) da_nil) rfl (hlen := (ar_cons ar_nil))) da_nil))))))))).imp (fun os h => .inr rfl)
theorem ok__law_form (F : FnP K "_law_form" s__law_form f fd) (hm : mg "_law_form" = some (.ref f)) (h_range : mg "range" = none) (h_tuple : mg "tuple" = none) (D__law_is_pair : Def P w K mg base "_law_is_pair" 2 2 M__law_is_pair) (D__law_number : Def P w K mg base "_law_number" 1 2 M__law_number) (D_pair_of_form : Def P w K mg base "pair_of_form" 2 1 M_pair_of_form) (D__law_no_noughts : Def P w K mg base "_law_no_noughts" 1 1 M__law_no_noughts) (D__law_cell_at : Def P w K mg base "_law_cell_at" 1 2 M__law_cell_at) : Def P w K mg base "_law_form" 3 1 M__law_form :=
  (Def.ofD (N := N__law_form) F sc__law_form hm (FunD.bindsN (ps := ["_law_script"]) F fun _ _ _ _ _ _ us hl => match us, hl with | [_], _ => rfl) rfl B__law_form (fun cdv A outer s H E Hf B => (dss_cons (by first | exact (ds_lc (own := [("_law_k", 3)]) (i := 1) false B sc__law_form.nd rfl rfl (sw_true rfl rfl rfl (by decide +kernel)) (di_rng1 rfl h_range (da_cons de_int da_nil)) (blkOk_by (own := [("_law_k", 3)]) (N := N__law_form) (sc := defScope s__law_form) (by decide +kernel)) (fun _ _ _ _ _ => (dg_name (i := 3) (vs := [3]) sc__law_form.nd rfl (by first | exact Or.inl rfl | exact Or.inr rfl))) (fun _ _ _ _ _ => (de_call D__law_number (Bk.blk B) (by decide) rfl (da_cons (de_call D__law_cell_at (Bk.blk B) (by decide) rfl (da_cons (de_var (pv 0)) (da_cons (de_var (pv 3)) da_nil)) rfl (hlen := (ar_cons (ar_cons ar_nil)))) (da_cons (de_pow de_int de_int) da_nil)) rfl (hlen := (ar_cons (ar_cons ar_nil)))))) | exact (ds_set (i := 1) false sc__law_form.nd rfl (by first | exact Or.inl rfl | exact Or.inr rfl) (de_lc (own := [("_law_k", 3)]) B sc__law_form.nd (di_rng1 rfl h_range (da_cons de_int da_nil)) (blkOk_by (own := [("_law_k", 3)]) (N := N__law_form) (sc := defScope s__law_form) (by decide +kernel)) (fun _ _ _ _ _ => (dg_name (i := 3) (vs := [3]) sc__law_form.nd rfl (by first | exact Or.inl rfl | exact Or.inr rfl))) (fun _ _ _ _ _ => (de_call D__law_number (Bk.blk B) (by decide) rfl (da_cons (de_call D__law_cell_at (Bk.blk B) (by decide) rfl (da_cons (de_var (pv 0)) (da_cons (de_var (pv 3)) da_nil)) rfl (hlen := (ar_cons (ar_cons ar_nil)))) (da_cons (de_pow de_int de_int) da_nil)) rfl (hlen := (ar_cons (ar_cons ar_nil)))))))) (dss_cons (ds_set (i := 2) false sc__law_form.nd rfl (by first | exact Or.inl rfl | exact Or.inr rfl) (de_dspT B (dps_cons (de_tup (da_cons de_int (da_cons de_int da_nil))) (de_ix (de_var (pv 1)) de_int) (dps_cons (de_tup (da_cons de_int (da_cons de_int da_nil))) (de_ix (de_var (pv 1)) de_int) (dps_cons (de_tup (da_cons de_int (da_cons de_int da_nil))) (de_ix (de_var (pv 1)) de_int) dps_nil))))) (dss_one (ds_ret (de_call D__law_is_pair B (by decide) rfl (da_cons (de_call D_pair_of_form B (by decide) rfl (da_cons (de_Ty call_tupleL pc_tup1 rfl h_tuple (by decide +kernel) (da_cons (de_var (pv 1)) da_nil)) da_nil) rfl (hlen := (ar_cons ar_nil))) (da_cons (de_call D__law_no_noughts B (by decide) rfl (da_cons (de_var (pv 2)) da_nil) rfl (hlen := (ar_cons ar_nil))) da_nil)) rfl (hlen := (ar_cons (ar_cons ar_nil)))))))))).imp (fun os h => .inr rfl)
theorem ok_law (F : FnP K "law" s_law f fd) (h_dict : mg "dict" = none) (h_range : mg "range" = none) (D__law_two : Def P w K mg base "_law_two" 3 1 M__law_two) (D_pair_times : Def P w K mg base "pair_times" 2 2 M_pair_times) (D__law_product : Def P w K mg base "_law_product" 2 2 M__law_product) (D_pair_plus : Def P w K mg base "pair_plus" 2 2 M_pair_plus) (D__law_is_pair : Def P w K mg base "_law_is_pair" 2 2 M__law_is_pair) (D__law_form : Def P w K mg base "_law_form" 3 1 M__law_form) (D__law_sum : Def P w K mg base "_law_sum" 2 2 M__law_sum) : FnOk P w K mg base CX0 4 f fd ["_law_script"] (DL.spLaw K) :=
  law_ok (N := N_law) F sc_law B_law (fun cdv A outer s H E Hf B => (dss_cons (ds_set (i := 1) false sc_law.nd rfl (by first | exact Or.inl rfl | exact Or.inr rfl) (de_call D__law_two B (by decide) rfl (da_cons (de_var (pv 0)) da_nil) rfl (hlen := (ar_cons ar_nil)))) (dss_cons (ds_set (i := 2) false sc_law.nd rfl (by first | exact Or.inl rfl | exact Or.inr rfl) (de_lst (da_cons (de_dcopy B rfl h_dict (de_ix (de_var (pv 1)) de_int)) (da_cons (de_dcopy B rfl h_dict (de_ix (de_var (pv 1)) de_int)) da_nil)))) (dss_cons (ds_for B (di_rng1 rfl h_range (da_cons de_int da_nil)) (dg_name (i := 3) (vs := [3]) sc_law.nd rfl (by first | exact Or.inl rfl | exact Or.inr rfl)) (dss_cons (ds_if (dt_not (dt_val (de_call D__law_is_pair B (by decide) rfl (da_cons (de_call D_pair_plus B (by decide) rfl (da_cons (de_ix (de_var (pv 2)) (de_var (pv 3))) (da_cons (de_ix (de_var (pv 2)) (de_sub de_int (de_var (pv 3)))) da_nil)) rfl (hlen := (ar_cons (ar_cons ar_nil)))) (da_cons (de_call D__law_sum B (by decide) rfl (da_cons (de_ix (de_var (pv 1)) de_int) (da_cons (de_ix (de_var (pv 1)) de_int) da_nil)) rfl (hlen := (ar_cons (ar_cons ar_nil)))) da_nil)) rfl (hlen := (ar_cons (ar_cons ar_nil)))))) (dss_one (ds_ret de_bl)) dss_nil) (dss_cons (ds_if (dt_not (dt_val (de_call D__law_is_pair B (by decide) rfl (da_cons (de_call D_pair_times B (by decide) rfl (da_cons (de_ix (de_var (pv 2)) (de_var (pv 3))) (da_cons (de_ix (de_var (pv 2)) (de_sub de_int (de_var (pv 3)))) da_nil)) rfl (hlen := (ar_cons (ar_cons ar_nil)))) (da_cons (de_call D__law_product B (by decide) rfl (da_cons (de_ix (de_var (pv 1)) de_int) (da_cons (de_ix (de_var (pv 1)) de_int) da_nil)) rfl (hlen := (ar_cons (ar_cons ar_nil)))) da_nil)) rfl (hlen := (ar_cons (ar_cons ar_nil)))))) (dss_one (ds_ret de_bl)) dss_nil) (dss_cons (ds_if (dt_not (dt_val (de_call D__law_is_pair B (by decide) rfl (da_cons (de_call D_pair_plus B (by decide) rfl (da_cons (de_ix (de_var (pv 2)) (de_var (pv 3))) (da_cons (de_ix (de_var (pv 2)) (de_var (pv 3))) da_nil)) rfl (hlen := (ar_cons (ar_cons ar_nil)))) (da_cons (de_call D__law_sum B (by decide) rfl (da_cons (de_ix (de_var (pv 1)) (de_var (pv 3))) (da_cons (de_ix (de_var (pv 1)) (de_var (pv 3))) da_nil)) rfl (hlen := (ar_cons (ar_cons ar_nil)))) da_nil)) rfl (hlen := (ar_cons (ar_cons ar_nil)))))) (dss_one (ds_ret de_bl)) dss_nil) (dss_cons (ds_set (i := 4) true sc_law.nd rfl (by first | exact Or.inl rfl | exact Or.inr rfl) (de_call D_pair_plus B (by decide) rfl (da_cons (de_ix (de_var (pv 2)) (de_var (pv 3))) (da_cons de_dnew da_nil)) rfl (hlen := (ar_cons (ar_cons ar_nil))))) (dss_cons (ds_if (dt_w (dw_or (dt_not (dt_val (de_call D__law_is_pair B (by decide) rfl (da_cons (de_var (pv 4)) (da_cons (de_ix (de_var (pv 1)) (de_var (pv 3))) da_nil)) rfl (hlen := (ar_cons (ar_cons ar_nil)))))) (dw_or1 (dt_not (dt_val (de_call D__law_is_pair B (by decide) rfl (da_cons (de_call D_pair_times B (by decide) rfl (da_cons de_dnew (da_cons (de_ix (de_var (pv 2)) (de_var (pv 3))) da_nil)) rfl (hlen := (ar_cons (ar_cons ar_nil)))) (da_cons de_dnew da_nil)) rfl (hlen := (ar_cons (ar_cons ar_nil))))))))) (dss_one (ds_ret de_bl)) dss_nil) (dss_cons (ds_dputL (i := 4) B (pv 4) de_int (de_tup (da_cons de_int (da_cons de_int da_nil)))) (dss_one (ds_if (dt_not (dt_val (de_call D__law_is_pair B (by decide) rfl (da_cons (de_call D_pair_plus B (by decide) rfl (da_cons de_dnew (da_cons (de_ix (de_var (pv 2)) (de_var (pv 3))) da_nil)) rfl (hlen := (ar_cons (ar_cons ar_nil)))) (da_cons (de_ix (de_var (pv 1)) (de_var (pv 3))) da_nil)) rfl (hlen := (ar_cons (ar_cons ar_nil)))))) (dss_one (ds_ret de_bl)) dss_nil))))))))) (dss_cons (ds_set (i := 4) true sc_law.nd rfl (by first | exact Or.inl rfl | exact Or.inr rfl) (de_call D_pair_times B (by decide) rfl (da_cons (de_ix (de_var (pv 2)) de_int) (da_cons (de_ix (de_var (pv 2)) de_int) da_nil)) rfl (hlen := (ar_cons (ar_cons ar_nil))))) (dss_cons (ds_set (i := 5) false sc_law.nd rfl (by first | exact Or.inl rfl | exact Or.inr rfl) (de_call D__law_product B (by decide) rfl (da_cons (de_ix (de_var (pv 1)) de_int) (da_cons (de_ix (de_var (pv 1)) de_int) da_nil)) rfl (hlen := (ar_cons (ar_cons ar_nil))))) (dss_cons (ds_if (dt_not (dt_val (de_call D__law_is_pair B (by decide) rfl (da_cons (de_var (pv 4)) (da_cons (de_var (pv 5)) da_nil)) rfl (hlen := (ar_cons (ar_cons ar_nil)))))) (dss_one (ds_ret de_bl)) dss_nil) (dss_cons (ds_dclr (i := 4) (pv 4)) (dss_one (ds_ret (de_and (de_call D__law_is_pair B (by decide) rfl (da_cons (de_call D_pair_times B (by decide) rfl (da_cons (de_ix (de_var (pv 2)) de_int) (da_cons (de_ix (de_var (pv 2)) de_int) da_nil)) rfl (hlen := (ar_cons (ar_cons ar_nil)))) (da_cons (de_var (pv 5)) da_nil)) rfl (hlen := (ar_cons (ar_cons ar_nil)))) (de_and (de_eqT B (de_var (pv 2)) (de_var (pv 1))) (de_one (de_call D__law_form B (by decide) rfl (da_cons (de_var (pv 0)) da_nil) rfl (hlen := (ar_cons ar_nil)))))))))))))))) hlaw
theorem facts {P : Program} {w : World} {K : PySem.W.Frag} {h : Heap} {mg : Str → Option Value} {f : Addr} (X : K.In h) (G : h.Ns mainGlobals mg) (hfa : mg ("law" : Str) = some (.ref f)) (c : He.SaysD fa fn K) (cx : ex K = true) :
    ∃ fd : FuncData, (∀ (s : Shared) (v : Value), BindsTo s fd ⟨[v], []⟩ [("_law_script", v)]) ∧ ∀ base : Heap, K.In base → base.Ns mainGlobals mg → FnOk P w K mg base CX0 4 f fd ["_law_script"] (DL.spLaw K) := by
  obtain ⟨fd__law_no_noughts, F__law_no_noughts⟩ := c.def_ 0 (d := d__law_no_noughts) rfl
  obtain ⟨fd__law_number, F__law_number⟩ := c.def_ 1 (d := d__law_number) rfl
  obtain ⟨fd__law_cell_at, F__law_cell_at⟩ := c.def_ 2 (d := d__law_cell_at) rfl
  obtain ⟨fd_without_noughts, F_without_noughts⟩ := c.def_ 3 (d := d_without_noughts) rfl
  obtain ⟨fd__law_whole, F__law_whole⟩ := c.def_ 4 (d := d__law_whole) rfl
  obtain ⟨fd__law_mixed, F__law_mixed⟩ := c.def_ 5 (d := d__law_mixed) rfl
  obtain ⟨fd_pair_times, F_pair_times⟩ := c.def_ 6 (d := d_pair_times) rfl
  obtain ⟨fd__law_product, F__law_product⟩ := c.def_ 7 (d := d__law_product) rfl
  obtain ⟨fd_pair_plus, F_pair_plus⟩ := c.def_ 8 (d := d_pair_plus) rfl
  obtain ⟨fd__law_is_pair, F__law_is_pair⟩ := c.def_ 9 (d := d__law_is_pair) rfl
  obtain ⟨fd__law_sum, F__law_sum⟩ := c.def_ 10 (d := d__law_sum) rfl
  obtain ⟨fd_pair_of_form, F_pair_of_form⟩ := c.def_ 11 (d := d_pair_of_form) rfl
  obtain ⟨fd__law_powers, F__law_powers⟩ := c.def_ 12 (d := d__law_powers) rfl
  obtain ⟨fd__law_two, F__law_two⟩ := c.def_ 13 (d := d__law_two) rfl
  obtain ⟨fd__law_form, F__law_form⟩ := c.def_ 14 (d := d__law_form) rfl
  obtain ⟨fd_law, F_law⟩ := c.def_ 15 (d := d_law) rfl
  have h_abs : mg "abs" = none := He.free_ok X G (c.fact 16 (f := .free "abs") rfl)
  have h_bool : mg "bool" = none := He.free_ok X G (c.fact 17 (f := .free "bool") rfl)
  have h_dict : mg "dict" = none := He.free_ok X G (c.fact 18 (f := .free "dict") rfl)
  have h_int : mg "int" = none := He.free_ok X G (c.fact 19 (f := .free "int") rfl)
  have h_isinstance : mg "isinstance" = none := He.free_ok X G (c.fact 20 (f := .free "isinstance") rfl)
  have h_len : mg "len" = none := He.free_ok X G (c.fact 21 (f := .free "len") rfl)
  have h_list : mg "list" = none := He.free_ok X G (c.fact 22 (f := .free "list") rfl)
  have h_min : mg "min" = none := He.free_ok X G (c.fact 23 (f := .free "min") rfl)
  have h_range : mg "range" = none := He.free_ok X G (c.fact 24 (f := .free "range") rfl)
  have h_tuple : mg "tuple" = none := He.free_ok X G (c.fact 25 (f := .free "tuple") rfl)
  have D__law_no_noughts : ∀ base : Heap, Def P w K mg base "_law_no_noughts" 1 1 M__law_no_noughts := fun base => ok__law_no_noughts F__law_no_noughts (He.glo_ok X G (c.fact 0 (f := .glo "_law_no_noughts") rfl))
  have D__law_number : ∀ base : Heap, Def P w K mg base "_law_number" 1 2 M__law_number := fun base => ok__law_number F__law_number (He.glo_ok X G (c.fact 1 (f := .glo "_law_number") rfl))
  have D__law_cell_at : ∀ base : Heap, Def P w K mg base "_law_cell_at" 1 2 M__law_cell_at := fun base => ok__law_cell_at F__law_cell_at (He.glo_ok X G (c.fact 2 (f := .glo "_law_cell_at") rfl)) h_len
  have D_without_noughts : ∀ base : Heap, Def P w K mg base "without_noughts" 1 1 M_without_noughts := fun base => ok_without_noughts F_without_noughts (He.glo_ok X G (c.fact 3 (f := .glo "without_noughts") rfl))
  have D__law_whole : ∀ base : Heap, Def P w K mg base "_law_whole" 1 1 M__law_whole := fun base => ok__law_whole F__law_whole (He.glo_ok X G (c.fact 4 (f := .glo "_law_whole") rfl)) h_bool h_int h_isinstance
  have D__law_mixed : ∀ base : Heap, Def P w K mg base "_law_mixed" 1 2 M__law_mixed := fun base => ok__law_mixed F__law_mixed (He.glo_ok X G (c.fact 5 (f := .glo "_law_mixed") rfl)) h_abs h_range
  have D_pair_times : ∀ base : Heap, Def P w K mg base "pair_times" 2 2 M_pair_times := fun base => ok_pair_times F_pair_times (He.glo_ok X G (c.fact 6 (f := .glo "pair_times") rfl)) (D_without_noughts base)
  have D__law_product : ∀ base : Heap, Def P w K mg base "_law_product" 2 2 M__law_product := fun base => ok__law_product F__law_product (He.glo_ok X G (c.fact 7 (f := .glo "_law_product") rfl)) (D__law_no_noughts base)
  have D_pair_plus : ∀ base : Heap, Def P w K mg base "pair_plus" 2 2 M_pair_plus := fun base => ok_pair_plus F_pair_plus (He.glo_ok X G (c.fact 8 (f := .glo "pair_plus") rfl)) h_dict (D_without_noughts base)
  have D__law_is_pair : ∀ base : Heap, Def P w K mg base "_law_is_pair" 2 2 M__law_is_pair := fun base => ok__law_is_pair F__law_is_pair (He.glo_ok X G (c.fact 9 (f := .glo "_law_is_pair") rfl)) h_dict h_isinstance h_len h_tuple (D__law_whole base)
  have D__law_sum : ∀ base : Heap, Def P w K mg base "_law_sum" 2 2 M__law_sum := fun base => ok__law_sum F__law_sum (He.glo_ok X G (c.fact 10 (f := .glo "_law_sum") rfl)) (D__law_no_noughts base)
  have D_pair_of_form : ∀ base : Heap, Def P w K mg base "pair_of_form" 2 1 M_pair_of_form := fun base => ok_pair_of_form F_pair_of_form (He.glo_ok X G (c.fact 11 (f := .glo "pair_of_form") rfl)) (D_without_noughts base)
  have D__law_powers : ∀ base : Heap, Def P w K mg base "_law_powers" 2 1 M__law_powers := fun base => ok__law_powers F__law_powers (He.glo_ok X G (c.fact 12 (f := .glo "_law_powers") rfl)) (D__law_mixed base)
  have D__law_two : ∀ base : Heap, Def P w K mg base "_law_two" 3 1 M__law_two := fun base => ok__law_two F__law_two (He.glo_ok X G (c.fact 13 (f := .glo "_law_two") rfl)) h_len h_list h_min h_range (D__law_powers base) (D__law_number base) (D__law_no_noughts base) (D__law_cell_at base) (D__law_mixed base)
  have D__law_form : ∀ base : Heap, Def P w K mg base "_law_form" 3 1 M__law_form := fun base => ok__law_form F__law_form (He.glo_ok X G (c.fact 14 (f := .glo "_law_form") rfl)) h_range h_tuple (D__law_is_pair base) (D__law_number base) (D_pair_of_form base) (D__law_no_noughts base) (D__law_cell_at base)
  have e := hfa.symm.trans (He.glo_ok X G (c.fact 15 (f := .glo "law") rfl))
  cases e
  have b := FunD.bindsA (ps := ["_law_script"]) F_law fun _ _ _ _ _ _ us hl => match us, hl with | [_], _ => rfl
  exact ⟨fd_law, fun s v => b s [v] rfl, fun base _ _ => ok_law F_law h_dict h_range (D__law_two base) (D_pair_times base) (D__law_product base) (D_pair_plus base) (D__law_is_pair base) (D__law_form base) (D__law_sum base) ⟩
end Row
end
open PySem PySem.W PySem.Calls PyProof.Rows
set_option maxRecDepth 100000 in
set_option maxHeartbeats 0 in
theorem PySem.Challenge.cw_sumcraft_k51_pairs_added_and_multiplied_holds : PySem.Challenge.rw_sumcraft_k51_pairs_added_and_multiplied.Holds := by
  w_on; o_law
  refine HandSHeadRun.head_any (r := OpenLaw.row PySem.Challenge.rw_sumcraft_k51_pairs_added_and_multiplied) (q := view (OpenLaw.row PySem.Challenge.rw_sumcraft_k51_pairs_added_and_multiplied).prog [17]) (H := Row.hk) (ob := Row.ob) (M := 6000) (loose := Row.loose) (d := HandSHeadRun.topDef (OpenLaw.row PySem.Challenge.rw_sumcraft_k51_pairs_added_and_multiplied).prog 17) (kwd := []) Row.ob_eq
    (by kernel_rfl) (fun s => by kernel_rfl) Row.run (by kernel_rfl) (by kernel_rfl) (by kernel_rfl) (by rfl) (by first | assumption | decide +kernel) (by decide +kernel) ⟨rfl, rfl, rfl, rfl, rfl, by decide +kernel⟩ ?hw ?hc
  case hw => w_witness2
  case hc =>
    refine L2.walk_ofE (l := PySem.Challenge.rw_sumcraft_k51_pairs_added_and_multiplied) (n := 63) (k := 4) (x := "_law_script") (CX := L2.CX0) rfl (by decide) (by kernel_rfl) ⟨rfl, by decide, by decide⟩ ?F (fun _ _ _ _ z => z)
    intro w mg fa h Y G hmg0
    obtain ⟨K, KX, c, cx⟩ := Y
    have hmg : mg ("law" : PySem.Str) = some (.ref fa) := by
      have e : (HandSHeadRun.topDef (OpenLaw.row PySem.Challenge.rw_sumcraft_k51_pairs_added_and_multiplied).prog 17).name = ("law" : PySem.Str) := by kernel_rfl
      rw [← e]
      exact hmg0
    obtain ⟨fd, hb, hF⟩ := Row.facts (P := (PySem.Challenge.rw_sumcraft_k51_pairs_added_and_multiplied).prog) (w := w) KX G hmg c cx
    exact ⟨K, fd, DL.spLaw K, KX, hb, fun H a ns hl _ hS => ⟨a, ns, rfl, hS, hl, DL.tabs0 rfl, fun _ => rfl⟩, hF⟩
