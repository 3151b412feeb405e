import PyProof.Rows.All
import Wide.All
import OpenK.AllK
import Wide.FinOn
import KE.KStateDown
import Lean
import HandS.ForMost
import HandS.ForExc
import HandS.Wide
import HandS.IsInst
import HandS.Zip
import HandS.Rev
import HandS.More
import HandS.Words
import HandS.WordsExc
import HandS.Defaults
import HandS.ExcIs
import HandS.ExcField
import HandS.Style
import HandS.Head0
import HandS.Head1
import HandS.Head2
import HandS.HeadEnd
import HandS.HeadHook1
import HandS.HeadHook2
import PyProof.Conv_int_bool
import KE.KExcIs
import HandS.ExcInit
import HandS.DictTup
import HandS.Nested
import HandS.NestedK
import HandS.WideBits
import HandS.SortKw
import HandS.Deep
import KE.GoesComp
import HandS.Comp
import HandS.ExcOwn
import HandS.NoneIn
import HandS.TupLen
import KE.KDictCopyH
import HandS.Conv
import HandS.Dict
import HandS.More
import KE.KDictDisplayH
import KE.KDictOf
import KE.KDictWalk
import HandS.Finally
import HandS.DictEq
import KE.KEqNest
import HandS.EndTab
import HandS.EndTab
import PySem.Challenge.RW_sumcraft_k61_ends_and_sizes
set_option Elab.async false
set_option linter.all false
set_option maxRecDepth 100000
set_option maxHeartbeats 4000000
namespace DL
open PySem L2
structure Ec where
  c : Str
  fs : List (Str × Int)
inductive D where
  | non | bl (b : Bool) | int (i : Int) | str (x : Str) | ex (e : Ec)
  | scr (ns : List Int)
  | lst (xs : List D) | tup (xs : List D)
  | obj (c : Str) (ns : List Str) (xs : List D)
  | row (rule : List (List Int)) (first : List (Int × Int))
  | dct (ks : List (List Key)) (xs : List D) | dck (ks : List Key) (xs : List D)
def ExV (cls : Value) (d : Option Addr) (a : Addr) : HO := .ext fun h => ∃ (oe : Obj) (vs : Array Value), h.get? a = some oe ∧ Zc cls d oe ∧ oe.data = .fields vs
def EcR (K : PySem.W.Frag) (e : Ec) (cls : Value) (d : Option Addr) (Hf : Hp) : Prop :=
  ∃ C, cls = .ref C ∧ PySem.W.nsIn K mainGlobals e.c = some (some (.ref C)) ∧
    (match d with | none => e.fs = [] | some a => e.fs ≠ [] ∧ Hf a = some (.xd (e.fs.map fun p => (p.1, V.int p.2))))
def ExAt (K : PySem.W.Frag) (H : Hp) (e : Ec) (a : Addr) : Prop := ∃ cls d, H a = some (ExV cls d a) ∧ EcR K e cls d H
def PolyAt (H : Hp) (p : List Int) (v : V) : Prop := ∃ a, v = .ref a ∧ H a = some (.lst (p.map V.int))
def FrAt (H : Hp) (p : Int × Int) (v : V) : Prop := ∃ a, v = .ref a ∧ H a = some (.tup [.int p.1, .int p.2])
def PolysAt (H : Hp) (ps : List (List Int)) (v : V) : Prop := ∃ a vs, v = .ref a ∧ H a = some (.lst vs) ∧ Paired (PolyAt H) ps vs
def FrsAt (H : Hp) (ps : List (Int × Int)) (v : V) : Prop := ∃ a vs, v = .ref a ∧ H a = some (.lst vs) ∧ Paired (FrAt H) ps vs
def RowAt (K : PySem.W.Frag) (H : Hp) (rule : List (List Int)) (first : List (Int × Int)) (a : Addr) : Prop :=
  ∃ (dx : Addr) (r f : V) (k : Addr), H a = some (.ins (He.ga K "Row") dx [("rule", r), ("first", f), ("known", .ref k)]) ∧ H dx = some (.own a) ∧ PolysAt H rule r ∧ FrsAt H first f
mutual
def Rep (K : PySem.W.Frag) (H : Hp) : D → V → Prop
  | .non, v => v = .non
  | .bl b, v => v = .bl b
  | .int i, v => v = .int i
  | .str x, v => v = .str x
  | .ex e, v => ∃ a, v = .ref a ∧ ExAt K H e a
  | .scr ns, v => ∃ a, v = .ref a ∧ SqL K H a (ns.map V.int)
  | .lst ds, v => ∃ a vs, v = .ref a ∧ H a = some (.lst vs) ∧ Reps K H ds vs
  | .tup ds, v => ∃ a vs, v = .ref a ∧ H a = some (.tup vs) ∧ Reps K H ds vs
  | .obj c ns ds, v => ∃ a dx vs, v = .ref a ∧ H a = some (.ins (He.ga K c) dx (ns.zip vs)) ∧ H dx = some (.own a) ∧ ns.length = ds.length ∧ Reps K H ds vs
  | .row rule first, v => ∃ a, v = .ref a ∧ RowAt K H rule first a
  | .dct ks ds, v => ∃ a vs, v = .ref a ∧ Rd H a (.dT (ks.zip vs)) ∧ ks.length = ds.length ∧ Reps K H ds vs
  | .dck ks ds, v => ∃ a vs, v = .ref a ∧ H a = some (.dK (ks.zip vs)) ∧ ks.length = ds.length ∧ Reps K H ds vs
def Reps (K : PySem.W.Frag) (H : Hp) : List D → List V → Prop
  | [], vs => vs = []
  | d :: ds, vs => ∃ v r, vs = v :: r ∧ Rep K H d v ∧ Reps K H ds r
end
def rowNs : List Str := ["rule", "first", "known"]
inductive O where | fz (d : D) | ls (os : List O) | tp (os : List O)
  | ob (c : Str) (ns : List Str) (os : List O) | dt (ks : List (List Key)) (ds : List D) | dk (ks : List Key) (ds : List D)
  | gh (o : O) (a : Addr) (m : O)
mutual
def RepO (K : PySem.W.Frag) (Hf H : Hp) : O → V → List Addr → Prop
  | .fz d, v, L => Rep K Hf d v ∧ L = []
  | .ls os, v, L => ∃ a vs M, v = .ref a ∧ H a = some (.lst vs) ∧ RepOs K Hf H os vs M ∧ L = a :: M
  | .tp os, v, L => ∃ a vs M, v = .ref a ∧ H a = some (.tup vs) ∧ RepOs K Hf H os vs M ∧ L = a :: M
  | .ob c ns os, v, L => ∃ a dx vs M, v = .ref a ∧ H a = some (.ins (He.ga K c) dx (ns.zip vs)) ∧ H dx = some (.own a) ∧ ns.length = os.length ∧ RepOs K Hf H os vs M ∧ ns ≠ rowNs ∧ L = a :: dx :: M
  | .dt ks ds, v, L => ∃ a vs, v = .ref a ∧ H a = some (.dT (ks.zip vs)) ∧ ks.length = ds.length ∧ Reps K Hf ds vs ∧ L = [a]
  | .dk ks ds, v, L => ∃ a vs, v = .ref a ∧ H a = some (.dK (ks.zip vs)) ∧ ks.length = ds.length ∧ Reps K Hf ds vs ∧ L = [a]
  | .gh o a m, v, L => ∃ L1 L2, RepO K Hf H o v L1 ∧ RepO K Hf H m (.ref a) L2 ∧ L = L1 ++ L2
def RepOs (K : PySem.W.Frag) (Hf H : Hp) : List O → List V → List Addr → Prop
  | [], vs, L => vs = [] ∧ L = []
  | o :: os, vs, L => ∃ v r L1 L2, vs = v :: r ∧ L = L1 ++ L2 ∧ RepO K Hf H o v L1 ∧ RepOs K Hf H os r L2
end
mutual
def RepV (K : PySem.W.Frag) (Hf H : Hp) : O → V → Prop
  | .fz d, v => Rep K Hf d v
  | .ls os, v => ∃ a vs, v = .ref a ∧ H a = some (.lst vs) ∧ RepVs K Hf H os vs
  | .tp os, v => ∃ a vs, v = .ref a ∧ H a = some (.tup vs) ∧ RepVs K Hf H os vs
  | .ob c ns os, v => ∃ a dx vs, v = .ref a ∧ H a = some (.ins (He.ga K c) dx (ns.zip vs)) ∧ H dx = some (.own a) ∧ ns.length = os.length ∧ RepVs K Hf H os vs ∧ ns ≠ rowNs
  | .dt ks ds, v => ∃ a vs, v = .ref a ∧ Rd H a (.dT (ks.zip vs)) ∧ ks.length = ds.length ∧ Reps K Hf ds vs
  | .dk ks ds, v => ∃ a vs, v = .ref a ∧ H a = some (.dK (ks.zip vs)) ∧ ks.length = ds.length ∧ Reps K Hf ds vs
  | .gh o _ _, v => RepV K Hf H o v
def RepVs (K : PySem.W.Frag) (Hf H : Hp) : List O → List V → Prop
  | [], vs => vs = []
  | o :: os, vs => ∃ v r, vs = v :: r ∧ RepV K Hf H o v ∧ RepVs K Hf H os r
end
mutual
def er : O → D
  | .fz d => d
  | .ls os => .lst (ers os)
  | .tp os => .tup (ers os)
  | .ob c ns os => .obj c ns (ers os)
  | .dt ks ds => .dct ks ds
  | .dk ks ds => .dck ks ds
  | .gh o _ _ => er o
def ers : List O → List D
  | [] => []
  | o :: os => er o :: ers os
end
theorem ers_eq : ∀ os : List O, ers os = os.map er
  | [] => rfl
  | o :: os => by show er o :: ers os = _; rw [ers_eq os]; rfl
def Kn (k : Addr) (vs : List V) : HO := .ext fun h => vs.length ≤ sizeLine ∧ ∃ (its : List Value) (n : Nat), Vals vs its ∧ h.get? k = some { cls := .type "list", data := .seq its.toArray n }
inductive Hk where | e (φ : Heap → Prop) | t (ps : Array Value)
def Hk.o : Hk → HO
  | .e φ => .ext φ
  | .t ps => .tbl ps
def isPl : HO → Bool
  | .ext _ => false
  | .tbl _ => false
  | _ => true
theorem Hk.ne {o : HO} (h : isPl o = true) (φ : Hk) : o ≠ φ.o := fun z => by subst z; cases φ <;> cases h
def isKn (o : HO) : Prop := (∃ k vs, o = Kn k vs) ∨ ∃ ps, o = .tbl ps
def Sm (H H' : Hp) : Prop := ∀ a o, H a = some o → H' a = some o ∨ (isKn o ∧ ∃ o', H' a = some o' ∧ isKn o')
theorem isKn_ext {o : HO} (h : isKn o) : ∃ φ : Hk, o = φ.o := h.elim (fun ⟨_, _, e⟩ => ⟨.e _, e⟩) fun ⟨ps, e⟩ => ⟨.t ps, e⟩
section
variable {H H' H1 : Hp} {a : Addr}
theorem Same.sm (e : Same H H') : Sm H H' := fun a o h => .inl (e a o h)
theorem Sm.refl (H : Hp) : Sm H H := fun _ _ h => .inl h
theorem Sm.trans (x : Sm H H1) (y : Sm H1 H') : Sm H H' := fun a o h => by
  rcases x a o h with h1 | ⟨k, o1, h1, k1⟩
  · exact y a o h1
  · rcases y a o1 h1 with h2 | ⟨_, o2, h2, k2⟩
    · exact .inr ⟨k, o1, h2, k1⟩
    · exact .inr ⟨k, o2, h2, k2⟩
theorem Sm.free (e : Sm H H') (h : H' a = none) : H a = none := by
  cases q : H a with
  | none => rfl
  | some o =>
    rcases e a o q with h1 | ⟨_, o1, h1, _⟩
    · rw [h] at h1; cases h1
    · rw [h] at h1; cases h1
theorem Sm.at {o : HO} (e : Sm H H') (h : H a = some o) (n : ∀ φ : Hk, o ≠ φ.o) : H' a = some o := by
  rcases e a o h with h1 | ⟨k, _⟩
  · exact h1
  · obtain ⟨φ, z⟩ := isKn_ext k
    exact absurd z (n φ)
theorem Sm.lst {xs : List V} (e : Sm H H') (h : H a = some (.lst xs)) : H' a = some (.lst xs) := e.at h (Hk.ne rfl)
theorem Sm.tup {xs : List V} (e : Sm H H') (h : H a = some (.tup xs)) : H' a = some (.tup xs) := e.at h (Hk.ne rfl)
theorem Sm.ins {C dx : Addr} {fs : List (Str × V)} (e : Sm H H') (h : H a = some (.ins C dx fs)) : H' a = some (.ins C dx fs) := e.at h (Hk.ne rfl)
theorem Sm.own {x : Addr} (e : Sm H H') (h : H a = some (.own x)) : H' a = some (.own x) := e.at h (Hk.ne rfl)
theorem Sm.dT {kvs : List (List Key × V)} (e : Sm H H') (h : H a = some (.dT kvs)) : H' a = some (.dT kvs) := e.at h (Hk.ne rfl)
theorem Sm.dK {kvs : List (Key × V)} (e : Sm H H') (h : H a = some (.dK kvs)) : H' a = some (.dK kvs) := e.at h (Hk.ne rfl)
theorem Sm.ne_none (e : Sm H H') (h : H a ≠ none) : H' a ≠ none := fun z => h (e.free z)
end
section
variable {K : PySem.W.Frag} {H H' Hf Hf' : Hp}
theorem EcR.mono {e : Ec} {cls : Value} {d : Option Addr} (z : Same H H') (h : EcR K e cls d H) : EcR K e cls d H' := by
  obtain ⟨C, h1, h2, h3⟩ := h
  refine ⟨C, h1, h2, ?_⟩
  cases d with
  | none => exact h3
  | some a => exact ⟨h3.1, z _ _ h3.2⟩
theorem ExAt.mono {e : Ec} {a : Addr} (z : Same H H') (h : ExAt K H e a) : ExAt K H' e a := by
  obtain ⟨cls, d, h1, h2⟩ := h
  exact ⟨cls, d, z _ _ h1, h2.mono z⟩
theorem pairedM {α β : Type} {F G : α → β → Prop} {l₁ : List α} {l₂ : List β} (h : Paired F l₁ l₂) (f : ∀ a b, F a b → G a b) : Paired G l₁ l₂ := Paired.mapP h f
theorem PolyAt.mono (e : Same H H') {p : List Int} {v : V} (h : PolyAt H p v) : PolyAt H' p v := let ⟨a, e1, h1⟩ := h; ⟨a, e1, e _ _ h1⟩
theorem FrAt.mono (e : Same H H') {p : Int × Int} {v : V} (h : FrAt H p v) : FrAt H' p v := let ⟨a, e1, h1⟩ := h; ⟨a, e1, e _ _ h1⟩
theorem PolysAt.mono (e : Same H H') {p : List (List Int)} {v : V} (h : PolysAt H p v) : PolysAt H' p v := let ⟨a, vs, e1, h1, h2⟩ := h; ⟨a, vs, e1, e _ _ h1, pairedM h2 fun _ _ z => z.mono e⟩
theorem FrsAt.mono (e : Same H H') {p : List (Int × Int)} {v : V} (h : FrsAt H p v) : FrsAt H' p v := let ⟨a, vs, e1, h1, h2⟩ := h; ⟨a, vs, e1, e _ _ h1, pairedM h2 fun _ _ z => z.mono e⟩
theorem RowAt.mono (e : Same H H') {rule : List (List Int)} {first : List (Int × Int)} {a : Addr} (h : RowAt K H rule first a) : RowAt K H' rule first a :=
  let ⟨dx, r, f, k, h1, h2, h3, h4⟩ := h; ⟨dx, r, f, k, e _ _ h1, e _ _ h2, h3.mono e, h4.mono e⟩
def ratP (t b : Int) : Int × Int := let g : Int := (Int.gcd t b : Nat); if b < 0 then (t.fdiv (-g), b.fdiv (-g)) else (t.fdiv g, b.fdiv g)
def evP (p : List Int) (n : Int) : Int := p.foldr (fun x a => a * n + x) 0
def wgP : List Int → List (Int × Int) → Int × Int → Int × Int
  | w :: ws, f :: fs, (t, b) => wgP ws fs (t * f.2 + w * f.1 * b, b * f.2)
  | _, _, a => a
def nextP (rule : List (List Int)) (known : List (Int × Int)) : Int × Int :=
  let n : Int := (known.length : Int) - ((rule.length : Int) - 1)
  let ws := rule.map fun p => evP p n
  let a := wgP ws.dropLast (known.drop n.toNat) (0, 1)
  ratP (-a.1) (a.2 * ws.getLastD 0)
def growP (rule : List (List Int)) (first : List (Int × Int)) : Nat → List (Int × Int)
  | 0 => first
  | m + 1 => growP rule first m ++ [nextP rule (growP rule first m)]
def nestNames : List Str := []
def tabP (K : PySem.W.Frag) (x : Str) : Addr := match K.lookup (He.ga K x) with
  | some ⟨_, _, .func fd, _⟩ => (match fd.code with
    | .ref c => (match K.lookup c with
      | some ⟨_, _, .fields vs, _⟩ => (match (vs[11]? : Option Value) with
        | some (.ref P) => P
        | _ => 0)
      | _ => 0)
    | _ => 0)
  | _ => 0
def nestAt (_l _c : Nat) : Str := ""
def tK (K : PySem.W.Frag) : List Addr := nestNames.map (tabP K)
def TabsA (T : List Addr) (H : Hp) : Prop := ∀ P ∈ T, NdefX.TabN H P nestAt
structure Rows (T : List Addr) (Hf H : Hp) : Prop where
  tabs : TabsA T H
  nk : ∀ a o, Hf a = some o → ¬ isKn o
  at_ : ∀ (a C dx k : Addr) (r f : V), Hf a = some (.ins C dx [("rule", r), ("first", f), ("known", .ref k)]) → ∃ (rule : List (List Int)) (first : List (Int × Int)) (m : Nat) (vs : List V),
    PolysAt Hf rule r ∧ FrsAt Hf first f ∧ H k = some (Kn k vs) ∧ Paired (FrAt Hf) (growP rule first m) vs ∧
      ∀ (a' C' dx' : Addr) (r' f' : V), Hf a' = some (.ins C' dx' [("rule", r'), ("first", f'), ("known", .ref k)]) → a' = a
def NR (H : Hp) (L : List Addr) : Prop := ∀ a ∈ L, ∀ C dx fs, H a = some (.ins C dx fs) → fs.map (·.1) ≠ rowNs
theorem Rows.ro {T : List Addr} {Hf Hf' H H' : Hp} (r : Rows T Hf H) (f : Same Hf Hf') (nk : ∀ a o, Hf' a = some o → Hf a = none → ¬ isKn o) (nr : ∀ a C dx fs, Hf' a = some (.ins C dx fs) → Hf a = none → fs.map (·.1) ≠ rowNs)
    (e : ∀ (k : Addr) (φ : Hk), H k = some φ.o → H' k = some φ.o) : Rows T Hf' H' where
  tabs := fun p hp => let ⟨ps, a1, a2, a3⟩ := r.tabs p hp; ⟨ps, e _ (.t ps) a1, a2, fun pos cv hc => let ⟨c, e1, e2⟩ := a3 pos cv hc; ⟨c, e1, e _ (.e _) e2⟩⟩
  nk := fun a o h => by
    cases q : Hf a with
    | none => exact nk a o h q
    | some u => rw [f a u q] at h; cases h; exact r.nk a _ q
  at_ := fun a C dx k v w h => by
    have old : ∀ a' C' dx' r' f', Hf' a' = some (.ins C' dx' [("rule", r'), ("first", f'), ("known", .ref k)]) → Hf a' = some (.ins C' dx' [("rule", r'), ("first", f'), ("known", .ref k)]) := fun a' C' dx' r' f' h' => by
      cases q : Hf a' with
      | none => exact absurd rfl (nr a' _ _ _ h' q)
      | some u => rw [f a' u q] at h'; exact h'
    obtain ⟨rule, first, m, vs, h1, h2, h3, h4, h5⟩ := r.at_ a C dx k v w (old _ _ _ _ _ h)
    exact ⟨rule, first, m, vs, h1.mono f, h2.mono f, e _ (.e _) h3, pairedM h4 fun _ _ z => z.mono f, fun a' C' dx' r' f' h' => h5 a' C' dx' r' f' (old _ _ _ _ _ h')⟩
theorem Rows.up {T : List Addr} {Hf H H' : Hp} (r : Rows T Hf H) (e : ∀ (k : Addr) (φ : Hk), H k = some φ.o → H' k = some φ.o) : Rows T Hf H' := r.ro (Same.refl _) (fun a o h q => by rw [q] at h; cases h) (fun a C dx fs h q => by rw [q] at h; cases h) e
theorem Rows.new {T : List Addr} {Hf H : Hp} {p : Addr} {o : HO} (r : Rows T Hf H) (hp : H p = none) : Rows T Hf (upd H p o) := r.up fun k vs h => by rw [upd_ne (ne_of_none h hp)]; exact h
theorem Rows.set {T : List Addr} {Hf H : Hp} {p : Addr} {o o' : HO} (r : Rows T Hf H) (h : H p = some o) (n : ∀ φ : Hk, o ≠ φ.o) : Rows T Hf (upd H p o') := r.up fun k vs z => by
  rw [upd_ne (fun e => by subst e; rw [h] at z; exact n _ (Option.some.inj z))]; exact z
theorem Rows.fz {T : List Addr} {Hf H : Hp} {p : Addr} {o : HO} (r : Rows T Hf H) (hp : H p = none) (n1 : ¬ isKn o) (n2 : ∀ C dx fs, o = .ins C dx fs → fs.map (·.1) ≠ rowNs) (hf : Hf p = none) : Rows T (upd Hf p o) (upd H p o) := by
  refine r.ro (fun a u e => by rw [upd_ne (ne_of_none e hf)]; exact e) (fun a u h q => ?_) (fun a C dx fs h q => ?_) fun k vs h => by rw [upd_ne (ne_of_none h hp)]; exact h
  · by_cases ha : a = p
    · subst ha; rw [upd_same] at h; cases h; exact n1
    · rw [upd_ne ha, q] at h; cases h
  · by_cases ha : a = p
    · subst ha; rw [upd_same] at h; exact n2 C dx fs (Option.some.inj h)
    · rw [upd_ne ha, q] at h; cases h
mutual
theorem Rep.mono (e : Same H H') : ∀ (d : D) (v : V), Rep K H d v → Rep K H' d v
  | .non, _, h => h
  | .bl _, _, h => h
  | .int _, _, h => h
  | .str _, _, h => h
  | .ex _, _, h => by
    obtain ⟨a, e1, h1⟩ := h
    exact ⟨a, e1, h1.mono e⟩
  | .scr ns, _, h => by
    obtain ⟨a, e1, h1⟩ := h
    exact ⟨a, e1, e.seq h1⟩
  | .lst ds, _, h => by
    obtain ⟨a, vs, e1, h1, h2⟩ := h
    exact ⟨a, vs, e1, e _ _ h1, Reps.mono e ds vs h2⟩
  | .tup ds, _, h => by
    obtain ⟨a, vs, e1, h1, h2⟩ := h
    exact ⟨a, vs, e1, e _ _ h1, Reps.mono e ds vs h2⟩
  | .obj c ns ds, _, h => by
    obtain ⟨a, dx, vs, e1, h1, h3, h4, h2⟩ := h
    exact ⟨a, dx, vs, e1, e _ _ h1, e _ _ h3, h4, Reps.mono e ds vs h2⟩
  | .row r f, _, h => by
    obtain ⟨a, e1, h1⟩ := h
    exact ⟨a, e1, h1.mono e⟩
  | .dct ks ds, _, h => by
    obtain ⟨a, vs, e1, h1, h3, h2⟩ := h
    exact ⟨a, vs, e1, h1.imp (fun h => e _ _ h) (fun ⟨o, h⟩ => ⟨o, e _ _ h⟩), h3, Reps.mono e ds vs h2⟩
  | .dck ks ds, _, h => by
    obtain ⟨a, vs, e1, h1, h3, h2⟩ := h
    exact ⟨a, vs, e1, e _ _ h1, h3, Reps.mono e ds vs h2⟩
theorem Reps.mono (e : Same H H') : ∀ (ds : List D) (vs : List V), Reps K H ds vs → Reps K H' ds vs
  | [], _, h => h
  | d :: ds, _, h => by
    obtain ⟨v, r, e1, h1, h2⟩ := h
    exact ⟨v, r, e1, Rep.mono e d v h1, Reps.mono e ds r h2⟩
end
mutual
theorem RepO.mono (f : Same Hf Hf') : ∀ (o : O) (v : V) (L : List Addr), (∀ a ∈ L, ∀ u, H a = some u → H' a = some u) → RepO K Hf H o v L → RepO K Hf' H' o v L
  | .fz d, _, _, _, h => ⟨Rep.mono f d _ h.1, h.2⟩
  | .ls os, _, L, e, h => by
    obtain ⟨a, vs, M, e1, h1, h2, e2⟩ := h
    subst e2
    exact ⟨a, vs, M, e1, e a List.mem_cons_self _ h1, RepOs.mono f os vs M (fun b hb => e b (List.mem_cons_of_mem _ hb)) h2, rfl⟩
  | .tp os, _, L, e, h => by
    obtain ⟨a, vs, M, e1, h1, h2, e2⟩ := h
    subst e2
    exact ⟨a, vs, M, e1, e a List.mem_cons_self _ h1, RepOs.mono f os vs M (fun b hb => e b (List.mem_cons_of_mem _ hb)) h2, rfl⟩
  | .ob c ns os, _, L, e, h => by
    obtain ⟨a, dx, vs, M, e1, h1, h3, h4, h2, hn, e2⟩ := h
    subst e2
    exact ⟨a, dx, vs, M, e1, e a List.mem_cons_self _ h1, e dx (by simp) _ h3, h4, RepOs.mono f os vs M (fun b hb => e b (by simp [hb])) h2, hn, rfl⟩
  | .dt ks ds, _, L, e, h => by
    obtain ⟨a, vs, e1, h1, h3, h2, e2⟩ := h
    subst e2
    exact ⟨a, vs, e1, e a List.mem_cons_self _ h1, h3, Reps.mono f ds vs h2, rfl⟩
  | .dk ks ds, _, L, e, h => by
    obtain ⟨a, vs, e1, h1, h3, h2, e2⟩ := h
    subst e2
    exact ⟨a, vs, e1, e a List.mem_cons_self _ h1, h3, Reps.mono f ds vs h2, rfl⟩
  | .gh o a m, _, L, e, h => by
    obtain ⟨L1, L2, h1, h2, e2⟩ := h
    subst e2
    exact ⟨L1, L2, RepO.mono f o _ L1 (fun b hb => e b (List.mem_append_left _ hb)) h1, RepO.mono f m _ L2 (fun b hb => e b (List.mem_append_right _ hb)) h2, rfl⟩
theorem RepOs.mono (f : Same Hf Hf') : ∀ (os : List O) (vs : List V) (L : List Addr), (∀ a ∈ L, ∀ u, H a = some u → H' a = some u) → RepOs K Hf H os vs L → RepOs K Hf' H' os vs L
  | [], _, _, _, h => h
  | o :: os, _, L, e, h => by
    obtain ⟨v, r, L1, L2, e1, e2, h1, h2⟩ := h
    subst e2
    exact ⟨v, r, L1, L2, e1, rfl, RepO.mono f o v L1 (fun b hb => e b (List.mem_append_left _ hb)) h1, RepOs.mono f os r L2 (fun b hb => e b (List.mem_append_right _ hb)) h2⟩
end
mutual
theorem RepV.mono (f : Same Hf Hf') (e : Sm H H') : ∀ (o : O) (v : V), RepV K Hf H o v → RepV K Hf' H' o v
  | .fz d, _, h => Rep.mono f d _ h
  | .ls os, _, h => by
    obtain ⟨a, vs, e1, h1, h2⟩ := h
    exact ⟨a, vs, e1, e.lst h1, RepVs.mono f e os vs h2⟩
  | .tp os, _, h => by
    obtain ⟨a, vs, e1, h1, h2⟩ := h
    exact ⟨a, vs, e1, e.tup h1, RepVs.mono f e os vs h2⟩
  | .ob c ns os, _, h => by
    obtain ⟨a, dx, vs, e1, h1, h3, h4, h2, hn⟩ := h
    exact ⟨a, dx, vs, e1, e.ins h1, e.own h3, h4, RepVs.mono f e os vs h2, hn⟩
  | .dt ks ds, _, h => by
    obtain ⟨a, vs, e1, h1, h3, h2⟩ := h
    exact ⟨a, vs, e1, h1.imp (fun h => e.dT h) (fun ⟨o, h⟩ => ⟨o, e.at h (Hk.ne rfl)⟩), h3, Reps.mono f ds vs h2⟩
  | .dk ks ds, _, h => by
    obtain ⟨a, vs, e1, h1, h3, h2⟩ := h
    exact ⟨a, vs, e1, e.dK h1, h3, Reps.mono f ds vs h2⟩
  | .gh o a m, _, h => RepV.mono f e o _ h
theorem RepVs.mono (f : Same Hf Hf') (e : Sm H H') : ∀ (os : List O) (vs : List V), RepVs K Hf H os vs → RepVs K Hf' H' os vs
  | [], _, h => h
  | o :: os, _, h => by
    obtain ⟨v, r, e1, h1, h2⟩ := h
    exact ⟨v, r, e1, RepV.mono f e o v h1, RepVs.mono f e os r h2⟩
end
mutual
theorem RepO.view : ∀ (o : O) (v : V) (L : List Addr), RepO K Hf H o v L → RepV K Hf H o v
  | .fz _, _, _, h => h.1
  | .ls os, _, _, h => by
    obtain ⟨a, vs, M, e1, h1, h2, _⟩ := h
    exact ⟨a, vs, e1, h1, RepOs.view os vs M h2⟩
  | .tp os, _, _, h => by
    obtain ⟨a, vs, M, e1, h1, h2, _⟩ := h
    exact ⟨a, vs, e1, h1, RepOs.view os vs M h2⟩
  | .ob c ns os, _, _, h => by
    obtain ⟨a, dx, vs, M, e1, h1, h3, h4, h2, hn, _⟩ := h
    exact ⟨a, dx, vs, e1, h1, h3, h4, RepOs.view os vs M h2, hn⟩
  | .dt ks ds, _, _, h => by
    obtain ⟨a, vs, e1, h1, h3, h2, _⟩ := h
    exact ⟨a, vs, e1, .inl h1, h3, h2⟩
  | .dk ks ds, _, _, h => by
    obtain ⟨a, vs, e1, h1, h3, h2, _⟩ := h
    exact ⟨a, vs, e1, h1, h3, h2⟩
  | .gh o a m, _, _, h => by
    obtain ⟨L1, L2, h1, h2, e2⟩ := h
    exact RepO.view o _ L1 h1
theorem RepOs.view : ∀ (os : List O) (vs : List V) (L : List Addr), RepOs K Hf H os vs L → RepVs K Hf H os vs
  | [], _, _, h => h.1
  | o :: os, _, _, h => by
    obtain ⟨v, r, L1, L2, e1, _, h1, h2⟩ := h
    exact ⟨v, r, e1, RepO.view o v L1 h1, RepOs.view os r L2 h2⟩
end
def NX (H : Hp) (L : List Addr) : Prop := ∀ a ∈ L, ∀ φ : Hk, H a ≠ some φ.o
def addF (Hf H : Hp) (L : List Addr) : Hp := fun a => if a ∈ L then H a else Hf a
theorem addF_in {L : List Addr} {a : Addr} (h : a ∈ L) : addF Hf H L a = H a := if_pos h
theorem addF_out {L : List Addr} {a : Addr} (h : a ∉ L) : addF Hf H L a = Hf a := if_neg h
theorem addF_same {L : List Addr} (hf : ∀ a ∈ L, Hf a = none) : Same Hf (addF Hf H L) := fun a o e => by
  by_cases h : a ∈ L
  · rw [hf a h] at e; cases e
  · rw [addF_out h]; exact e
theorem addF_sub {L : List Addr} (s : Same Hf H) : Same (addF Hf H L) H := fun a o e => by
  by_cases h : a ∈ L
  · rw [addF_in h] at e; exact e
  · rw [addF_out h] at e; exact s a o e
theorem Rows.add {T : List Addr} {L : List Addr} (r : Rows T Hf H) (nx : NX H L) (nr : NR H L) (hf : ∀ a ∈ L, Hf a = none) : Rows T (addF Hf H L) H := by
  refine r.ro (addF_same hf) (fun a o h q => ?_) (fun a C dx fs h q => ?_) fun _ _ h => h
  · by_cases ha : a ∈ L
    · rw [addF_in ha] at h
      intro k
      obtain ⟨φ, z⟩ := isKn_ext k
      exact nx a ha φ (by rw [h, z])
    · rw [addF_out ha, q] at h; cases h
  · by_cases ha : a ∈ L
    · rw [addF_in ha] at h; exact nr a ha C dx fs h
    · rw [addF_out ha, q] at h; cases h
theorem NX.kp {L : List Addr} (n : NX H L) (e : Sm H H') : ∀ a ∈ L, ∀ u, H a = some u → H' a = some u := fun a ha u h => e.at h fun φ z => n a ha φ (by rw [h, z])
mutual
theorem RepO.nx : ∀ (o : O) (v : V) (L : List Addr), RepO K Hf H o v L → NX H L
  | .fz _, _, _, h => by rw [h.2]; exact fun a ha => nomatch ha
  | .ls os, _, _, h => by
    obtain ⟨a, vs, M, e1, h1, h2, e2⟩ := h
    subst e2
    intro b hb φ z
    rcases List.mem_cons.mp hb with e | e
    · subst e; rw [h1] at z; cases φ <;> cases z
    · exact RepOs.nx os vs M h2 b e φ z
  | .tp os, _, _, h => by
    obtain ⟨a, vs, M, e1, h1, h2, e2⟩ := h
    subst e2
    intro b hb φ z
    rcases List.mem_cons.mp hb with e | e
    · subst e; rw [h1] at z; cases φ <;> cases z
    · exact RepOs.nx os vs M h2 b e φ z
  | .ob c ns os, _, _, h => by
    obtain ⟨a, dx, vs, M, e1, h1, h3, h4, h2, hn, e2⟩ := h
    subst e2
    intro b hb φ z
    rcases List.mem_cons.mp hb with e | e
    · subst e; rw [h1] at z; cases φ <;> cases z
    · rcases List.mem_cons.mp e with e | e
      · subst e; rw [h3] at z; cases φ <;> cases z
      · exact RepOs.nx os vs M h2 b e φ z
  | .dt ks ds, _, _, h => by
    obtain ⟨a, vs, e1, h1, h3, h2, e2⟩ := h
    subst e2
    intro b hb φ z
    rcases List.mem_cons.mp hb with e | e
    · subst e; rw [h1] at z; cases φ <;> cases z
    · cases e
  | .dk ks ds, _, _, h => by
    obtain ⟨a, vs, e1, h1, h3, h2, e2⟩ := h
    subst e2
    intro b hb φ z
    rcases List.mem_cons.mp hb with e | e
    · subst e; rw [h1] at z; cases φ <;> cases z
    · cases e
  | .gh o a m, _, _, h => by
    obtain ⟨L1, L2, h1, h2, e2⟩ := h
    subst e2
    intro b hb φ z
    rcases List.mem_append.mp hb with e | e
    · exact RepO.nx o _ L1 h1 b e φ z
    · exact RepO.nx m _ L2 h2 b e φ z
theorem RepOs.nx : ∀ (os : List O) (vs : List V) (L : List Addr), RepOs K Hf H os vs L → NX H L
  | [], _, _, h => by rw [h.2]; exact fun a ha => nomatch ha
  | o :: os, _, _, h => by
    obtain ⟨v, r, L1, L2, e1, e2, h1, h2⟩ := h
    subst e2
    intro b hb φ z
    rcases List.mem_append.mp hb with e | e
    · exact RepO.nx o v L1 h1 b e φ z
    · exact RepOs.nx os r L2 h2 b e φ z
end
theorem zip_fst {ns : List Str} {vs : List V} (h : ns.length = vs.length) : (ns.zip vs).map (·.1) = ns := by
  rw [List.map_fst_zip]
  omega
theorem RepOs.length0 : ∀ {os : List O} {vs : List V} {L : List Addr}, RepOs K Hf H os vs L → vs.length = os.length
  | [], _, _, h => by have h : _ = _ := h.1; subst h; rfl
  | d :: ds, _, _, h => by
    obtain ⟨v, r, L1, L2, e1, _, _, h2⟩ := h
    subst e1
    simp [RepOs.length0 h2]
mutual
theorem RepO.nr : ∀ (o : O) (v : V) (L : List Addr), RepO K Hf H o v L → NR H L
  | .fz _, _, _, h => by rw [h.2]; exact fun a ha => nomatch ha
  | .ls os, _, _, h => by
    obtain ⟨a, vs, M, e1, h1, h2, e2⟩ := h
    subst e2
    intro b hb C dx fs z
    rcases List.mem_cons.mp hb with e | e
    · subst e; rw [h1] at z; cases z
    · exact RepOs.nr os vs M h2 b e C dx fs z
  | .tp os, _, _, h => by
    obtain ⟨a, vs, M, e1, h1, h2, e2⟩ := h
    subst e2
    intro b hb C dx fs z
    rcases List.mem_cons.mp hb with e | e
    · subst e; rw [h1] at z; cases z
    · exact RepOs.nr os vs M h2 b e C dx fs z
  | .ob c ns os, _, _, h => by
    obtain ⟨a, dx, vs, M, e1, h1, h3, h4, h2, hn, e2⟩ := h
    subst e2
    intro b hb C dx' fs z
    rcases List.mem_cons.mp hb with e | e
    · subst e; rw [h1] at z; cases z; rw [zip_fst (by rw [h4, RepOs.length0 h2])]; exact hn
    · rcases List.mem_cons.mp e with e | e
      · subst e; rw [h3] at z; cases z
      · exact RepOs.nr os vs M h2 b e C dx' fs z
  | .dt ks ds, _, _, h => by
    obtain ⟨a, vs, e1, h1, h3, h2, e2⟩ := h
    subst e2
    intro b hb C dx fs z
    rcases List.mem_cons.mp hb with e | e
    · subst e; rw [h1] at z; cases z
    · cases e
  | .dk ks ds, _, _, h => by
    obtain ⟨a, vs, e1, h1, h3, h2, e2⟩ := h
    subst e2
    intro b hb C dx fs z
    rcases List.mem_cons.mp hb with e | e
    · subst e; rw [h1] at z; cases z
    · cases e
  | .gh o a m, _, _, h => by
    obtain ⟨L1, L2, h1, h2, e2⟩ := h
    subst e2
    intro b hb C dx fs z
    rcases List.mem_append.mp hb with e | e
    · exact RepO.nr o _ L1 h1 b e C dx fs z
    · exact RepO.nr m _ L2 h2 b e C dx fs z
theorem RepOs.nr : ∀ (os : List O) (vs : List V) (L : List Addr), RepOs K Hf H os vs L → NR H L
  | [], _, _, h => by rw [h.2]; exact fun a ha => nomatch ha
  | o :: os, _, _, h => by
    obtain ⟨v, r, L1, L2, e1, e2, h1, h2⟩ := h
    subst e2
    intro b hb C dx fs z
    rcases List.mem_append.mp hb with e | e
    · exact RepO.nr o v L1 h1 b e C dx fs z
    · exact RepOs.nr os r L2 h2 b e C dx fs z
end
mutual
theorem RepO.frozen (G : Hp) (f : Same Hf G) : ∀ (o : O) (v : V) (L : List Addr), (∀ a ∈ L, G a = H a) → RepO K Hf H o v L → Rep K G (er o) v
  | .fz d, _, _, _, h => Rep.mono f d _ h.1
  | .ls os, _, _, e, h => by
    obtain ⟨a, vs, M, e1, h1, h2, e2⟩ := h
    subst e2
    refine ⟨a, vs, e1, ?_, RepOs.frozen G f os vs M (fun b hb => e b (List.mem_cons_of_mem _ hb)) h2⟩
    rw [e a List.mem_cons_self]; exact h1
  | .tp os, _, _, e, h => by
    obtain ⟨a, vs, M, e1, h1, h2, e2⟩ := h
    subst e2
    refine ⟨a, vs, e1, ?_, RepOs.frozen G f os vs M (fun b hb => e b (List.mem_cons_of_mem _ hb)) h2⟩
    rw [e a List.mem_cons_self]; exact h1
  | .ob c ns os, _, _, e, h => by
    obtain ⟨a, dx, vs, M, e1, h1, h3, h4, h2, hn, e2⟩ := h
    subst e2
    refine ⟨a, dx, vs, e1, ?_, ?_, by rw [h4, ers_eq, List.length_map], RepOs.frozen G f os vs M (fun b hb => e b (by simp [hb])) h2⟩
    · rw [e a List.mem_cons_self]; exact h1
    · rw [e dx (by simp)]; exact h3
  | .dt ks ds, _, _, e, h => by
    obtain ⟨a, vs, e1, h1, h3, h2, e2⟩ := h
    subst e2
    refine ⟨a, vs, e1, .inl ?_, h3, Reps.mono f ds vs h2⟩
    rw [e a List.mem_cons_self]; exact h1
  | .dk ks ds, _, _, e, h => by
    obtain ⟨a, vs, e1, h1, h3, h2, e2⟩ := h
    subst e2
    refine ⟨a, vs, e1, ?_, h3, Reps.mono f ds vs h2⟩
    rw [e a List.mem_cons_self]; exact h1
  | .gh o a m, _, _, e, h => by
    obtain ⟨L1, L2, h1, h2, e2⟩ := h
    subst e2
    exact RepO.frozen G f o _ L1 (fun b hb => e b (List.mem_append_left _ hb)) h1
theorem RepOs.frozen (G : Hp) (f : Same Hf G) : ∀ (os : List O) (vs : List V) (L : List Addr), (∀ a ∈ L, G a = H a) → RepOs K Hf H os vs L → Reps K G (ers os) vs
  | [], _, _, _, h => h.1
  | o :: os, _, _, e, h => by
    obtain ⟨v, r, L1, L2, e1, e2, h1, h2⟩ := h
    subst e2
    exact ⟨v, r, e1, RepO.frozen G f o v L1 (fun b hb => e b (List.mem_append_left _ hb)) h1, RepOs.frozen G f os r L2 (fun b hb => e b (List.mem_append_right _ hb)) h2⟩
end
theorem Reps.length : ∀ {ds : List D} {vs : List V}, Reps K H ds vs → vs.length = ds.length
  | [], _, h => by have h : _ = _ := h; subst h; rfl
  | d :: ds, _, h => by
    obtain ⟨v, r, e1, _, h2⟩ := h
    subst e1
    simp [Reps.length h2]
theorem RepVs.length : ∀ {os : List O} {vs : List V}, RepVs K Hf H os vs → vs.length = os.length
  | [], _, h => by have h : _ = _ := h; subst h; rfl
  | d :: ds, _, h => by
    obtain ⟨v, r, e1, _, h2⟩ := h
    subst e1
    simp [RepVs.length h2]
theorem RepOs.length : ∀ {os : List O} {vs : List V} {L : List Addr}, RepOs K Hf H os vs L → vs.length = os.length
  | [], _, _, h => by have h : _ = _ := h.1; subst h; rfl
  | d :: ds, _, _, h => by
    obtain ⟨v, r, L1, L2, e1, _, _, h2⟩ := h
    subst e1
    simp [RepOs.length h2]
end
def kO (k : List Key) : O := .tp (k.map fun x => match x with | .inl i => .fz (.int i) | .inr t => .fz (.str t))
theorem kO_rep {K : PySem.W.Frag} {Hf H : Hp} {q : Addr} : ∀ {k : List Key}, H q = some (.tup (k.map kV)) → RepV K Hf H (kO k) (.ref q) := fun {k} h => by
  refine ⟨q, k.map kV, rfl, h, ?_⟩
  clear h
  induction k with
  | nil => rfl
  | cons x k ih =>
    refine ⟨kV x, k.map kV, rfl, ?_, ih⟩
    cases x <;> rfl
inductive Res (α : Type) where | ok (a : α) | exc (e : Ec) | bad
def Res.bind {α β : Type} (x : Res α) (f : α → Res β) : Res β := match x with
  | .ok a => f a
  | .exc e => .exc e
  | .bad => .bad
instance : Monad Res where
  pure := .ok
  bind := Res.bind
inductive S where | un | vl (own : Bool) (o : O)
  | me (a : Addr) (o : O)
  | tq (k : List Key)
  | lt (a : Addr) (o : O)
  | fa (f : Addr)
abbrev Env := List S
inductive Out where | nx (r : Env) | ret (o : O) | bk (r : Env) | ct (r : Env) | exc (e : Ec) (r : Env) | bad
inductive R where | nw (o : O) | vw (o : O) | bw (o : O)
abbrev FE := Env → Res R
abbrev FS := Env → Out
structure Ext (Hf H Hf' H' : Hp) : Prop where
  same : Sm H H'
  fsame : Same Hf Hf'
  sub : Same Hf' H'
  keep : ∀ a, H a ≠ none → Hf' a ≠ none → Hf a ≠ none
  rows : ∀ {T : List Addr}, Rows T Hf H → Rows T Hf' H'
theorem Ext.refl {Hf H : Hp} (s : Same Hf H) : Ext Hf H Hf H := ⟨Sm.refl _, Same.refl _, s, fun _ _ h => h, fun h => h⟩
theorem Ext.trans {Hf H Hf1 H1 Hf2 H2 : Hp} (x : Ext Hf H Hf1 H1) (y : Ext Hf1 H1 Hf2 H2) : Ext Hf H Hf2 H2 :=
  ⟨x.same.trans y.same, x.fsame.trans y.fsame, y.sub, fun a h1 h2 => x.keep a h1 (y.keep a (x.same.ne_none h1) h2), fun h => y.rows (x.rows h)⟩
def SlotR (K : PySem.W.Frag) (Hf H0 H : Hp) : S → Option V → List Addr → Prop
  | .un, _, L => L = []
  | .me a o, some v, L => v = .ref a ∧ RepO K Hf H o v L
  | .me _ _, none, _ => False
  | .tq k, some v, L => L = [] ∧ ∃ q, v = .ref q ∧ H q = some (.tup (k.map kV))
  | .tq _, none, _ => False
  | .lt a o, some v, L => L = [] ∧ v = .ref a ∧ RepV K Hf H0 o v
  | .lt _ _, none, _ => False
  | .fa f, some v, L => L = [] ∧ v = .ref f
  | .fa _, none, _ => False
  | .vl true o, some v, L => RepO K Hf H o v L
  | .vl false o, some v, L => RepV K Hf H0 o v ∧ L = []
  | .vl _ _, none, _ => False
def EnvR (K : PySem.W.Frag) (Hf H0 H : Hp) : Env → St → List Addr → Prop
  | [], s, L => s = [] ∧ L = []
  | x :: r, s, L => ∃ y t L1 L2, s = y :: t ∧ L = L1 ++ L2 ∧ SlotR K Hf H0 H x y L1 ∧ EnvR K Hf H0 H r t L2
structure SR (K : PySem.W.Frag) (Hf0 H0 : Hp) (r : Env) (s : St) (Hf H : Hp) (L : List Addr) : Prop where
  ext : Ext Hf0 H0 Hf H
  env : EnvR K Hf H0 H r s L
  nd : L.Nodup
  fr : ∀ a ∈ L, Hf a = none ∧ H0 a = none
  ok : ∀ a ∈ L, H a ≠ none
  rows : Rows (tK K) Hf H
def ResR (K : PySem.W.Frag) (H0 Hf H : Hp) : R → V → List Addr → Prop
  | .nw o, v, L => RepO K Hf H o v L
  | .vw o, v, L => RepV K Hf H o v ∧ L = []
  | .bw o, v, L => RepV K Hf H0 o v ∧ L = []
structure Nw (H Hf' H' : Hp) (L : List Addr) : Prop where
  nd : L.Nodup
  fr : ∀ a ∈ L, H a = none ∧ Hf' a = none ∧ H' a ≠ none
abbrev Wx := Value → Option Addr → St → Hp → Prop
structure Cn where
  Hf0 : Hp
  H0 : Hp
  W : Wx
abbrev Cn.SR (c : Cn) (K : PySem.W.Frag) (r : Env) (s : St) (Hf H : Hp) (L : List Addr) : Prop := DL.SR K c.Hf0 c.H0 r s Hf H L
def PostX (c : Cn) (K : PySem.W.Frag) (s : St) (Hf H : Hp) (e : Ec) : Prop := ∀ cls d Hf' H', Ext Hf H Hf' H' → EcR K e cls d Hf' → c.W cls d s H'
def PostE (c : Cn) (K : PySem.W.Frag) (s : St) (Hf H : Hp) (Q : VK) : Res R → Prop
  | .ok r => ∀ v Hf' H' L, Ext Hf H Hf' H' → ResR K c.H0 Hf' H' r v L → Nw H Hf' H' L → Q v H'
  | .exc e => PostX c K s Hf H e
  | .bad => False
def PostT (c : Cn) (K : PySem.W.Frag) (s : St) (Hf H : Hp) (Q : Bool → Hp → Prop) : Res Bool → Prop
  | .ok b => ∀ Hf' H', Ext Hf H Hf' H' → Q b H'
  | .exc e => PostX c K s Hf H e
  | .bad => False
def PostA (c : Cn) (K : PySem.W.Frag) (s : St) (Hf H : Hp) (Q : List V → Hp → Prop) : Res (List O) → Prop
  | .ok os => ∀ vs Hf' H', Ext Hf H Hf' H' → RepVs K Hf' H' os vs → Q vs H'
  | .exc e => PostX c K s Hf H e
  | .bad => False
def PostS (c : Cn) (K : PySem.W.Frag) (G : Hp) (D : Ends) : Out → Prop
  | .nx r => ∀ s Hf H L, Same G Hf → c.SR K r s Hf H L → D.nx s H
  | .bk r => ∀ s Hf H L, Same G Hf → c.SR K r s Hf H L → D.bk s H
  | .ct r => ∀ s Hf H L, Same G Hf → c.SR K r s Hf H L → D.ct s H
  | .ret o => ∀ v Hf H L, Same G Hf → Ext c.Hf0 c.H0 Hf H → RepO K Hf H o v L → Nw c.H0 Hf H L → D.rt v H
  | .exc e r => ∀ s cls d Hf H L, Same G Hf → c.SR K r s Hf H L → EcR K e cls d Hf → c.W cls d s H
  | .bad => False
def SoE (c : Cn) (K : PySem.W.Frag) (t : TE) (f : FE) : Prop := ∀ r s Hf H L, c.SR K r s Hf H L → ∀ Q, PostE c K s Hf H Q (f r) → t s H Q
def SoT (c : Cn) (K : PySem.W.Frag) (t : TT) (f : Env → Res Bool) : Prop := ∀ r s Hf H L, c.SR K r s Hf H L → ∀ Q, PostT c K s Hf H Q (f r) → t s H Q
def SoA (c : Cn) (K : PySem.W.Frag) (t : TA) (f : Env → Res (List O)) : Prop := ∀ r s Hf H L, c.SR K r s Hf H L → ∀ Q, PostA c K s Hf H Q (f r) → t s H Q
def SoS (c : Cn) (K : PySem.W.Frag) (t : TS) (f : FS) : Prop := ∀ r s Hf H L, c.SR K r s Hf H L → ∀ D, PostS c K Hf D (f r) → t D s H
theorem PostS.mono {c : Cn} {K : PySem.W.Frag} {G G' : Hp} {D : Ends} {o : Out} (e : Same G G') (h : PostS c K G D o) : PostS c K G' D o := by
  cases o with
  | nx r => exact fun s Hf H L f => h s Hf H L (e.trans f)
  | bk r => exact fun s Hf H L f => h s Hf H L (e.trans f)
  | ct r => exact fun s Hf H L f => h s Hf H L (e.trans f)
  | ret o => exact fun v Hf H L f => h v Hf H L (e.trans f)
  | exc e' r => exact fun s cls d Hf H L f => h s cls d Hf H L (e.trans f)
  | bad => exact h
structure DE (c : Cn) (X : Cx) (e : Expr) (f : FE) : Prop where
  ex : ∃ t, PE X e t ∧ SoE c X.K t f
structure DT (c : Cn) (X : Cx) (e : Expr) (f : Env → Res Bool) : Prop where
  ex : ∃ t, PT X e t ∧ SoT c X.K t f
structure DW (c : Cn) (X : Cx) (e : Expr) (f : Env → Res Bool) : Prop where
  ex : ∃ t, PW X e t ∧ SoT c X.K t f
structure DA (c : Cn) (X : Cx) (e : List Expr) (f : Env → Res (List O)) : Prop where
  ex : ∃ t, PA X e t ∧ SoA c X.K t f
structure DS (c : Cn) (X : Cx) (st : Stmt) (f : FS) : Prop where
  ex : ∃ t, PS X st t ∧ SoS c X.K t f
structure DSs (c : Cn) (X : Cx) (st : List Stmt) (f : FS) : Prop where
  ex : ∃ t, PSs X st t ∧ SoS c X.K t f
section
variable {K : PySem.W.Frag} {H0 H H' Hf Hf' : Hp}
def Tst (H H' : Hp) : Prop := ∀ q xs, H q = some (.tup xs) → H' q = some (.tup xs)
theorem Tst.sm {H H' : Hp} (e : Sm H H') : Tst H H' := fun _ _ h => e.tup h
theorem Tst.rf {H : Hp} : Tst H H := fun _ _ h => h
theorem Tst.up {H : Hp} {p : Addr} {u u' : HO} (h : H p = some u) (n : ∀ xs, u ≠ .tup xs) : Tst H (upd H p u') := fun q xs z => by
  by_cases e : q = p
  · subst e; rw [h] at z; exact absurd (Option.some.inj z) (n xs)
  · rw [upd_ne e]; exact z
theorem Tst.su {H H1 : Hp} {p : Addr} {u u' : HO} (e : Sm H H1) (h : H p = some u) (n : ∀ xs, u ≠ .tup xs) : Tst H (upd H1 p u') := fun q xs z => by
  by_cases e' : q = p
  · subst e'; rw [h] at z; exact absurd (Option.some.inj z) (n xs)
  · rw [upd_ne e']; exact e.tup z
theorem Tst.new {H : Hp} {p : Addr} {u : HO} (h : H p = none) : Tst H (upd H p u) := fun q xs z => by rw [upd_ne (ne_of_none z h)]; exact z
theorem EnvR.mono (f : Same Hf Hf') (T : Tst H H') : ∀ {r : Env} {s : St} {L : List Addr}, (∀ a ∈ L, ∀ u, H a = some u → H' a = some u) → EnvR K Hf H0 H r s L → EnvR K Hf' H0 H' r s L
  | [], _, _, _, h => h
  | x :: r, _, L, e, h => by
    obtain ⟨y, t, L1, L2, e1, e2, h1, h2⟩ := h
    subst e2
    refine ⟨y, t, L1, L2, e1, rfl, ?_, EnvR.mono f T (fun b hb => e b (List.mem_append_right _ hb)) h2⟩
    cases x with
    | un => exact h1
    | me a o =>
      cases y with
      | none => exact h1
      | some v => exact ⟨h1.1, RepO.mono f o v L1 (fun b hb => e b (List.mem_append_left _ hb)) h1.2⟩
    | tq k =>
      cases y with
      | none => exact h1
      | some v => exact let ⟨h2, q, h3, h4⟩ := h1; ⟨h2, q, h3, T _ _ h4⟩
    | lt a o =>
      cases y with
      | none => exact h1
      | some v => exact ⟨h1.1, h1.2.1, RepV.mono f (Sm.refl _) o v h1.2.2⟩
    | fa a =>
      cases y with
      | none => exact h1
      | some v => exact h1
    | vl w o =>
      cases y with
      | none => cases w <;> exact h1
      | some v =>
        cases w with
        | true => exact RepO.mono f o v L1 (fun b hb => e b (List.mem_append_left _ hb)) h1
        | false => exact ⟨RepV.mono f (Sm.refl _) o v h1.1, h1.2⟩
theorem EnvR.at : ∀ {r : Env} {s : St} {L : List Addr} {i : Nat} {x : S}, EnvR K Hf H0 H r s L → r[i]? = some x → ∃ y L1 M L2, s[i]? = some y ∧ L = L1 ++ M ++ L2 ∧ SlotR K Hf H0 H x y M ∧
    ∀ (Hf' H' : Hp) (x' : S) (y' : Option V) (M' : List Addr), Same Hf Hf' → Tst H H' → (∀ a ∈ L1 ++ L2, ∀ u, H a = some u → H' a = some u) → SlotR K Hf' H0 H' x' y' M' → EnvR K Hf' H0 H' (r.set i x') (s.set i y') (L1 ++ M' ++ L2)
  | [], _, _, _, _, _, e => by simp at e
  | z :: r, _, L, 0, x, h, e => by
    obtain ⟨y, t, L1, L2, e1, e2, h1, h2⟩ := h
    subst e1 e2
    have e3 : z = x := by simpa using e
    subst e3
    refine ⟨y, [], L1, L2, rfl, rfl, h1, fun Hf' H' x' y' M' f T k q => ?_⟩
    exact ⟨y', t, M', L2, rfl, rfl, q, h2.mono f T fun a ha => k a (by simpa using ha)⟩
  | z :: r, _, L, i + 1, x, h, e => by
    obtain ⟨y, t, L1, L2, e1, e2, h1, h2⟩ := h
    subst e1 e2
    obtain ⟨y2, A, M, B, f1, f2, f3, f4⟩ := EnvR.at (i := i) (x := x) h2 (by simpa using e)
    subst f2
    refine ⟨y2, L1 ++ A, M, B, by simpa using f1, by simp [List.append_assoc], f3, fun Hf' H' x' y' M' f T k q => ?_⟩
    refine ⟨y, t.set i y', L1, A ++ M' ++ B, rfl, by simp [List.append_assoc], ?_, f4 Hf' H' x' y' M' f T (fun a ha => k a ?_) q⟩
    · have one : EnvR K Hf' H0 H' [z] [y] L1 := EnvR.mono (H := H) f T (fun a ha => k a (by simp [ha])) ⟨y, [], L1, [], rfl, by simp, h1, rfl, rfl⟩
      obtain ⟨y3, t3, A1, A2, g1, g2, g3, g4⟩ := one
      cases g1
      obtain ⟨g5, g6⟩ := g4
      subst g6
      rw [List.append_nil] at g2
      subst g2
      exact g3
    · simp only [List.mem_append] at ha ⊢
      rcases ha with ha | ha
      · exact .inl (.inr ha)
      · exact .inr ha
theorem EnvR.nx : ∀ {r : Env} {s : St} {L : List Addr}, EnvR K Hf H0 H r s L → NX H L
  | [], _, _, h => by rw [h.2]; exact fun a ha => nomatch ha
  | x :: r, _, L, h => by
    obtain ⟨y, t, L1, L2, e1, e2, h1, h2⟩ := h
    subst e2
    intro b hb φ z
    rcases List.mem_append.mp hb with e | e
    · cases x with
      | un => rw [show L1 = [] from h1] at e; cases e
      | me a o =>
        cases y with
        | none => exact h1.elim
        | some v => exact RepO.nx o v L1 h1.2 b e φ z
      | tq k =>
        cases y with
        | none => exact h1.elim
        | some v => rw [h1.1] at e; cases e
      | lt _ _ =>
        cases y with
        | none => exact h1.elim
        | some v => rw [h1.1] at e; cases e
      | fa _ =>
        cases y with
        | none => exact h1.elim
        | some v => rw [h1.1] at e; cases e
      | vl w o =>
        cases y with
        | none => cases w <;> exact h1.elim
        | some v =>
          cases w with
          | true => exact RepO.nx o v L1 h1 b e φ z
          | false => rw [h1.2] at e; cases e
    · exact h2.nx b e φ z
theorem EnvR.length : ∀ {r : Env} {s : St} {L : List Addr}, EnvR K Hf H0 H r s L → s.length = r.length
  | [], _, _, h => by rw [h.1]; rfl
  | x :: r, _, L, h => by
    obtain ⟨y, t, L1, L2, e1, e2, h1, h2⟩ := h
    subst e1
    simp [h2.length]
theorem Ext.nf {Hf H Hf' H' : Hp} (x : Ext Hf H Hf' H') {a : Addr} (h1 : H a ≠ none) (h2 : Hf a = none) : Hf' a = none := by
  cases q : Hf' a with
  | none => rfl
  | some o => exact absurd h2 (x.keep a h1 (by rw [q]; simp))
theorem Ext.fresh {Hf H Hf' H' : Hp} (x : Ext Hf H Hf' H') {a : Addr} (h : H' a = none) : H a = none := x.same.free h
theorem SR.sub {Hf0 : Hp} {r : Env} {s : St} {L : List Addr} (h : SR K Hf0 H0 r s Hf H L) : Same Hf H := h.ext.sub
theorem SR.mono {Hf0 : Hp} {r : Env} {s : St} {L : List Addr} (h : SR K Hf0 H0 r s Hf H L) (x : Ext Hf H Hf' H') : SR K Hf0 H0 r s Hf' H' L :=
  ⟨h.ext.trans x, h.env.mono x.fsame (Tst.sm x.same) (h.env.nx.kp x.same), h.nd, fun a ha => ⟨x.nf (h.ok a ha) (h.fr a ha).1, (h.fr a ha).2⟩, fun a ha => x.same.ne_none (h.ok a ha), x.rows h.rows⟩
theorem ResR.mono {r : R} {v : V} {L : List Addr} (f : Same Hf Hf') (e : Sm H H') (h : ResR K H0 Hf H r v L) : ResR K H0 Hf' H' r v L := by
  cases r with
  | nw o => exact RepO.mono f o v L ((RepO.nx o v L h).kp e) h
  | vw o => exact ⟨RepV.mono f e o v h.1, h.2⟩
  | bw o => exact ⟨RepV.mono f (Sm.refl _) o v h.1, h.2⟩
def R.a : R → O
  | .nw o => .fz (er o)
  | .vw o => o
  | .bw o => o
theorem Ext.add {L : List Addr} (x : Ext Hf H Hf' H') (n : Nw H Hf' H' L) (nq : NX H' L ∧ NR H' L) : Ext Hf H (addF Hf' H' L) H' :=
  ⟨x.same, x.fsame.trans (addF_same fun a ha => (n.fr a ha).2.1), addF_sub x.sub, fun a h1 h2 => by
    by_cases ha : a ∈ L
    · exact absurd (n.fr a ha).1 h1
    · rw [addF_out ha] at h2
      exact x.keep a h1 h2, fun h => (x.rows h).add nq.1 nq.2 fun a ha => (n.fr a ha).2.1⟩
theorem addF_nw {L : List Addr} (n : Nw H Hf' H' L) : Same Hf' (addF Hf' H' L) := addF_same fun a ha => (n.fr a ha).2.1
theorem ResR.nq {r : R} {v : V} {L : List Addr} (h : ResR K H0 Hf H r v L) : NX H L ∧ NR H L := by
  cases r with
  | nw o => exact ⟨RepO.nx o v L h, RepO.nr o v L h⟩
  | vw o => rw [h.2]; exact ⟨fun a ha => (nomatch ha), fun a ha => (nomatch ha)⟩
  | bw o => rw [h.2]; exact ⟨fun a ha => (nomatch ha), fun a ha => (nomatch ha)⟩
def see (own : Bool) : O → R
  | .fz d => .nw (.fz d)
  | o => if own then .vw o else .bw o
end
end DL
namespace DL
open PySem L2
def items : O → Option (List O)
  | .ls os => some os
  | .fz (.lst ds) => some (ds.map .fz)
  | .fz (.scr ns) => some (ns.map fun n => .fz (.int n))
  | _ => none
section
variable {K : PySem.W.Frag} {H0 H H' Hf Hf' : Hp}
theorem reps_fz : ∀ {ds : List D} {vs : List V}, Reps K Hf ds vs → RepVs K Hf H (ds.map .fz) vs
  | [], _, h => h
  | d :: ds, _, h => by
    obtain ⟨v, r, e, h1, h2⟩ := h
    exact ⟨v, r, e, h1, reps_fz h2⟩
theorem ints_fz : ∀ {ns : List Int}, RepVs K Hf H (ns.map fun n => .fz (.int n)) (ns.map V.int)
  | [] => rfl
  | n :: ns => ⟨_, _, rfl, rfl, ints_fz⟩
theorem items_rep {o : O} {os : List O} {v : V} (s : Same Hf H) (h : RepV K Hf H o v) (e : items o = some os) : ∃ a vs, v = .ref a ∧ SqL K H a vs ∧ RepVs K Hf H os vs := by
  cases o with
  | ls os' =>
    have e' : os' = os := Option.some.inj e
    subst e'
    obtain ⟨a, vs, e1, h1, h2⟩ := h
    exact ⟨a, vs, e1, SqL.of h1, h2⟩
  | tp _ => cases e
  | ob _ _ _ => cases e
  | dt _ _ => cases e
  | dk _ _ => cases e
  | gh _ _ _ => cases e
  | fz d =>
    cases d with
    | lst ds =>
      have e' : ds.map O.fz = os := Option.some.inj e
      subst e'
      obtain ⟨a, vs, e1, h1, h2⟩ := h
      exact ⟨a, vs, e1, SqL.of (s _ _ h1), reps_fz h2⟩
    | scr ns =>
      have e' : (ns.map fun n => O.fz (.int n)) = os := Option.some.inj e
      subst e'
      obtain ⟨a, e1, h1⟩ := h
      exact ⟨a, _, e1, s.seq h1, ints_fz⟩
    | non => cases e
    | bl b => cases e
    | int i => cases e
    | str x => cases e
    | ex c => cases e
    | tup ds => cases e
    | obj _ _ _ => cases e
    | row _ _ => cases e
    | dct _ _ => cases e
    | dck _ _ => cases e
theorem RepVs.get : ∀ {os : List O} {vs : List V} {i : Nat} {o : O}, RepVs K Hf H os vs → os[i]? = some o → ∃ v, vs[i]? = some v ∧ RepV K Hf H o v
  | [], _, _, _, _, e => by simp at e
  | x :: os, _, 0, o, h, e => by
    obtain ⟨v, r, e1, h1, h2⟩ := h
    subst e1
    have e2 : x = o := by simpa using e
    subst e2
    exact ⟨v, rfl, h1⟩
  | x :: os, _, i + 1, o, h, e => by
    obtain ⟨v, r, e1, h1, h2⟩ := h
    subst e1
    obtain ⟨w, hw, hr⟩ := RepVs.get (i := i) (o := o) h2 (by simpa using e)
    exact ⟨w, by simpa using hw, hr⟩
structure Pst (c : Cn) (K : PySem.W.Frag) (s : St) {β : Type} (post : Hp → Hp → Res β → Prop) : Prop where
  bad : ∀ Hf H, ¬ post Hf H .bad
  exc : ∀ Hf H e, post Hf H (.exc e) → PostX c K s Hf H e
  mono : ∀ Hf H Hf' H' z, Ext Hf H Hf' H' → post Hf H z → post Hf' H' z
theorem PostX.mono {c : Cn} {s : St} {e : Ec} (x : Ext Hf H Hf' H') (h : PostX c K s Hf H e) : PostX c K s Hf' H' e := fun cls d Hf2 H2 y q => h cls d Hf2 H2 (x.trans y) q
theorem Nw.mono {L : List Addr} {H1 Hf2 H2 : Hp} (e : Sm H H1) (n : Nw H1 Hf2 H2 L) : Nw H Hf2 H2 L := ⟨n.nd, fun a ha => ⟨e.free (n.fr a ha).1, (n.fr a ha).2⟩⟩
theorem pstE {c : Cn} {s : St} {Q : VK} : Pst c K s (fun Hf H z => PostE c K s Hf H Q z) where
  bad := fun _ _ h => h
  exc := fun _ _ _ h => h
  mono := fun Hf H Hf' H' z x h => by
    cases z with
    | ok r => exact fun v Hf2 H2 L y q n => h v Hf2 H2 L (x.trans y) q (n.mono x.same)
    | exc e => exact PostX.mono x h
    | bad => exact h
theorem pstT {c : Cn} {s : St} {Q : Bool → Hp → Prop} : Pst c K s (fun Hf H z => PostT c K s Hf H Q z) where
  bad := fun _ _ h => h
  exc := fun _ _ _ h => h
  mono := fun Hf H Hf' H' z x h => by
    cases z with
    | ok r => exact fun Hf2 H2 y => h Hf2 H2 (x.trans y)
    | exc e => exact PostX.mono x h
    | bad => exact h
theorem pstA {c : Cn} {s : St} {Q : List V → Hp → Prop} : Pst c K s (fun Hf H z => PostA c K s Hf H Q z) where
  bad := fun _ _ h => h
  exc := fun _ _ _ h => h
  mono := fun Hf H Hf' H' z x h => by
    cases z with
    | ok r => exact fun v Hf2 H2 y q => h v Hf2 H2 (x.trans y) q
    | exc e => exact PostX.mono x h
    | bad => exact h
def ArgR (K : PySem.W.Frag) (H0 Hf H : Hp) : R → V → Prop
  | .nw o, v => Rep K Hf (er o) v
  | .vw o, v => RepV K Hf H o v
  | .bw o, v => RepV K Hf H0 o v
theorem ArgR.a {r : R} {v : V} (s0 : Sm H0 H) (h : ArgR K H0 Hf H r v) : RepV K Hf H r.a v := by
  cases r with
  | nw o => exact h
  | vw o => exact h
  | bw o => exact RepV.mono (Same.refl _) s0 o v h
theorem ArgR.mono {r : R} {v : V} (f : Same Hf Hf') (e : Sm H H') (h : ArgR K H0 Hf H r v) : ArgR K H0 Hf' H' r v := by
  cases r with
  | nw o => exact Rep.mono f _ _ h
  | vw o => exact RepV.mono f e o v h
  | bw o => exact RepV.mono f (Sm.refl _) o v h
theorem ResR.argR {r : R} {v : V} {L : List Addr} (h : ResR K H0 Hf' H' r v L) (n : Nw H Hf' H' L) : ArgR K H0 (addF Hf' H' L) H' r v := by
  cases r with
  | nw o => exact RepO.frozen _ (addF_nw n) o v L (fun a ha => addF_in ha) h
  | vw o => exact RepV.mono (addF_nw n) (Sm.refl _) o v h.1
  | bw o => exact RepV.mono (addF_nw n) (Sm.refl _) o v h.1
variable {c : Cn} {t : TE} {f : FE} {r : Env} {s : St} {L : List Addr} {tt : TT} {ft : Env → Res Bool} {ta : TA} {fa : Env → Res (List O)}
theorem SoE.run (h : SoE c K t f) (sr : c.SR K r s Hf H L) {β : Type} {post : Hp → Hp → Res β → Prop} (P : Pst c K s post) {k : R → Res β} (hp : post Hf H ((f r).bind k)) {Q : VK}
    (hq : ∀ x v Hf1 H1, Ext Hf H Hf1 H1 → c.SR K r s Hf1 H1 L → ArgR K c.H0 Hf1 H1 x v → post Hf1 H1 (k x) → Q v H1) : t s H Q := by
  refine h r s Hf H L sr Q ?_
  cases e : f r with
  | bad => rw [e] at hp; exact absurd hp (P.bad _ _)
  | exc e' => rw [e] at hp; exact P.exc _ _ _ hp
  | ok x =>
    rw [e] at hp
    intro v Hf1 H1 L1 x1 q n
    have x2 := x1.add n q.nq
    exact hq x v _ H1 x2 (sr.mono x2) (q.argR n) (P.mono _ _ _ _ _ x2 hp)
theorem SoT.run (h : SoT c K tt ft) (sr : c.SR K r s Hf H L) {β : Type} {post : Hp → Hp → Res β → Prop} (P : Pst c K s post) {k : Bool → Res β} (hp : post Hf H ((ft r).bind k)) {Q : Bool → Hp → Prop}
    (hq : ∀ b Hf1 H1, Ext Hf H Hf1 H1 → c.SR K r s Hf1 H1 L → post Hf1 H1 (k b) → Q b H1) : tt s H Q := by
  refine h r s Hf H L sr Q ?_
  cases e : ft r with
  | bad => rw [e] at hp; exact absurd hp (P.bad _ _)
  | exc e' => rw [e] at hp; exact P.exc _ _ _ hp
  | ok x =>
    rw [e] at hp
    intro Hf1 H1 x1
    exact hq x Hf1 H1 x1 (sr.mono x1) (P.mono _ _ _ _ _ x1 hp)
theorem SoA.run (h : SoA c K ta fa) (sr : c.SR K r s Hf H L) {β : Type} {post : Hp → Hp → Res β → Prop} (P : Pst c K s post) {k : List O → Res β} (hp : post Hf H ((fa r).bind k)) {Q : List V → Hp → Prop}
    (hq : ∀ os vs Hf1 H1, Ext Hf H Hf1 H1 → c.SR K r s Hf1 H1 L → RepVs K Hf1 H1 os vs → post Hf1 H1 (k os) → Q vs H1) : ta s H Q := by
  refine h r s Hf H L sr Q ?_
  cases e : fa r with
  | bad => rw [e] at hp; exact absurd hp (P.bad _ _)
  | exc e' => rw [e] at hp; exact P.exc _ _ _ hp
  | ok x =>
    rw [e] at hp
    intro v Hf1 H1 x1 q
    exact hq x v Hf1 H1 x1 (sr.mono x1) q (P.mono _ _ _ _ _ x1 hp)
theorem SR.same0 (sr : c.SR K r s Hf H L) : Sm c.H0 H := sr.ext.same
theorem postE_fz {d : D} {Q : VK} {v : V} (sub : Same Hf H) (h : PostE c K s Hf H Q (.ok (.nw (.fz d)))) (hr : Rep K Hf d v) : Q v H :=
  h v Hf H [] (Ext.refl sub) ⟨hr, rfl⟩ ⟨List.nodup_nil, fun _ h => nomatch h⟩
theorem Ext.new {p : Addr} {o : HO} (sub : Same Hf H) (hp : H p = none) : Ext Hf H Hf (upd H p o) :=
  ⟨Same.sm fun a u e => by rw [upd_ne (ne_of_none e hp)]; exact e, Same.refl _, fun a u e => by rw [upd_ne (ne_of_none (sub a u e) hp)]; exact sub a u e, fun _ _ h => h, fun h => h.new hp⟩
theorem sub_none (sub : Same Hf H) {p : Addr} (hp : H p = none) : Hf p = none := sub.free hp
def allFz : List O → Bool
  | [] => true
  | .fz _ :: r => allFz r
  | _ :: _ => false
theorem repVs_O : ∀ {os : List O} {vs : List V}, allFz os = true → RepVs K Hf H os vs → RepOs K Hf H' os vs []
  | [], _, _, h => ⟨h, rfl⟩
  | .fz d :: os, _, e, h => by
    obtain ⟨v, r, e1, h1, h2⟩ := h
    exact ⟨v, r, [], [], e1, rfl, ⟨h1, rfl⟩, repVs_O (by exact e) h2⟩
  | .ls _ :: _, _, e, _ => by cases e
  | .tp _ :: _, _, e, _ => by cases e
  | .ob _ _ _ :: _, _, e, _ => by cases e
  | .dt _ _ :: _, _, e, _ => by cases e
  | .dk _ _ :: _, _, e, _ => by cases e
theorem postE_ls {os : List O} {vs : List V} {Q : VK} {p : Addr} (sub : Same Hf H) (h : PostE c K s Hf H Q (.ok (.nw (.ls os)))) (ha : allFz os = true) (hr : RepVs K Hf H os vs) (hp : H p = none) : Q (.ref p) (upd H p (.lst vs)) :=
  h (.ref p) Hf _ [p] (Ext.new sub hp) ⟨p, vs, [], rfl, upd_same, repVs_O ha hr, rfl⟩ ⟨by simp, fun a ha => by
    have e : a = p := by simpa using ha
    subst e
    exact ⟨hp, sub_none sub hp, by rw [upd_same]; simp⟩⟩
theorem postE_tup {ds : List D} {vs : List V} {Q : VK} {p : Addr} (sub : Same Hf H) (h : PostE c K s Hf H Q (.ok (.nw (.fz (.tup ds))))) (hr : Reps K Hf ds vs) (hp : H p = none) : Q (.ref p) (upd H p (.tup vs)) := by
  have sub2 : Same (upd Hf p (.tup vs)) (upd H p (.tup vs)) := fun a u e => by
    by_cases ha : a = p
    · subst ha; rw [upd_same] at e ⊢; exact e
    · rw [upd_ne ha] at e ⊢; exact sub a u e
  have x : Ext Hf H (upd Hf p (.tup vs)) (upd H p (.tup vs)) := ⟨Same.sm fun a u e => by rw [upd_ne (ne_of_none e hp)]; exact e, fun a u e => by rw [upd_ne (ne_of_none e (sub_none sub hp))]; exact e, sub2, fun a h1 h2 => by
    by_cases ha : a = p
    · subst ha; exact absurd hp h1
    · rw [upd_ne ha] at h2; exact h2, fun h => h.fz hp (fun k => by obtain ⟨φ, z⟩ := isKn_ext k; cases φ <;> cases z) (fun _ _ _ z => nomatch z) (sub_none sub hp)⟩
  exact h (.ref p) _ _ [] x ⟨⟨p, vs, rfl, upd_same, Reps.mono x.fsame ds vs hr⟩, rfl⟩ ⟨List.nodup_nil, fun _ h => nomatch h⟩
end
end DL
namespace DL
open PySem L2
variable {c : Cn} {X : Cx} {a b e : Expr} {f g fa fb : FE} {pos : Pos}
def eVar (i : Nat) : FE := fun r => match r[i]? with
  | some (.vl w o) => .ok (see w o)
  | some (.tq k) => .ok (.vw (kO k))
  | some (.lt _ o) => .ok (see false o)
  | _ => .bad
def eC (d : D) : FE := fun _ => .ok (.nw (.fz d))
theorem de_var {i : Nat} (h : PE X e (tVar i)) : DE c X e (eVar i) := by
  refine ⟨tVar i, h, fun r s Hf H L sr Q q => ?_⟩
  cases er1 : r[i]? with
  | none => simp only [eVar, er1] at q; exact q.elim
  | some x =>
    cases x with
    | un => simp only [eVar, er1] at q; exact q.elim
    | me _ _ => simp only [eVar, er1] at q; exact q.elim
    | lt a o =>
      simp only [eVar, er1] at q
      obtain ⟨y, L1, M, L2, h1, h2, h3, _⟩ := sr.env.at er1
      cases y with
      | none => exact h3.elim
      | some v =>
        refine ⟨v, h1, q v Hf H [] (Ext.refl sr.sub) ?_ ⟨List.nodup_nil, fun _ h => nomatch h⟩⟩
        have h4 := h3.2.2
        cases o with
        | fz d => exact ⟨h4, rfl⟩
        | ls os => exact ⟨h4, rfl⟩
        | tp os => exact ⟨h4, rfl⟩
        | ob _ _ _ => exact ⟨h4, rfl⟩
        | dt _ _ => exact ⟨h4, rfl⟩
        | dk _ _ => exact ⟨h4, rfl⟩
        | gh _ _ _ => exact ⟨h4, rfl⟩
    | fa _ => simp only [eVar, er1] at q; exact q.elim
    | tq k =>
      simp only [eVar, er1] at q
      obtain ⟨y, L1, M, L2, h1, h2, h3, _⟩ := sr.env.at er1
      cases y with
      | none => exact h3.elim
      | some v =>
        obtain ⟨_, qa, ev, hq⟩ := h3
        subst ev
        exact ⟨_, h1, q _ Hf H [] (Ext.refl sr.sub) ⟨kO_rep hq, rfl⟩ ⟨List.nodup_nil, fun _ h => nomatch h⟩⟩
    | vl w o =>
      simp only [eVar, er1] at q
      obtain ⟨y, L1, M, L2, h1, h2, h3, _⟩ := sr.env.at er1
      cases y with
      | none => cases w <;> exact h3.elim
      | some v =>
        refine ⟨v, h1, q v Hf H [] (Ext.refl sr.sub) ?_ ⟨List.nodup_nil, fun _ h => nomatch h⟩⟩
        cases w with
        | true =>
          have h4 := RepO.view o v M h3
          cases o with
          | fz d => exact ⟨h4, rfl⟩
          | ls os => exact ⟨h4, rfl⟩
          | tp os => exact ⟨h4, rfl⟩
          | ob _ _ _ => exact ⟨h4, rfl⟩
          | dt _ _ => exact ⟨h4, rfl⟩
          | dk _ _ => exact ⟨h4, rfl⟩
          | gh _ _ _ => exact ⟨h4, rfl⟩
        | false =>
          obtain ⟨h4, _⟩ := h3
          cases o with
          | fz d => exact ⟨h4, rfl⟩
          | ls os => exact ⟨h4, rfl⟩
          | tp os => exact ⟨h4, rfl⟩
          | ob _ _ _ => exact ⟨h4, rfl⟩
          | dt _ _ => exact ⟨h4, rfl⟩
          | dk _ _ => exact ⟨h4, rfl⟩
          | gh _ _ _ => exact ⟨h4, rfl⟩
theorem de_c {v : V} {d : D} (h : PE X e (tC v)) (hr : ∀ H, Rep X.K H d v) : DE c X e (eC d) :=
  ⟨tC v, h, fun r s Hf H L sr Q q => postE_fz sr.sub q (hr Hf)⟩
theorem de_int {i j} : DE c X (.Constant (.int i) j pos) (eC (.int i)) := de_c pe_int fun _ => rfl
theorem de_bl {b j} : DE c X (.Constant (.bool b) j pos) (eC (.bl b)) := de_c pe_bl fun _ => rfl
theorem de_str {x j} : DE c X (.Constant (.str x) j pos) (eC (.str x)) := de_c pe_str fun _ => rfl
def PureR (K : PySem.W.Frag) (rr : R2) (g : O → O → Res R) : Prop := ∀ (c : Cn) (s : St) (Hf H : Hp) (x y : V) (a b : O) (Q : VK), Same Hf H → RepV K Hf H a x → RepV K Hf H b y → PostE c K s Hf H Q (g a b) → rr x y H Q
def eOp (g : O → O → Res R) (fa fb : FE) : FE := fun r => (fa r).bind fun x => (fb r).bind fun y => g x.a y.a
theorem so_op {K : PySem.W.Frag} {rr : R2} {g : O → O → Res R} {ta tb : TE} (hg : PureR K rr g) (ha : SoE c K ta fa) (hb : SoE c K tb fb) : SoE c K (tOp rr ta tb) (eOp g fa fb) := fun r s Hf H L sr Q q => by
  refine ha.run sr pstE q fun x v Hf1 H1 x1 sr1 a1 q1 => ?_
  refine hb.run sr1 pstE q1 fun y w Hf2 H2 x2 sr2 a2 q2 => ?_
  exact hg c s Hf2 H2 v w _ _ Q sr2.sub ((a1.mono x2.fsame x2.same).a sr2.same0) (a2.a sr2.same0) q2
theorem de_op {op : Operator} {rr : R2} {g : O → O → Res R} (ho : OpR X (binaryOp op) rr) (hg : PureR X.K rr g) (ha : DE c X a fa) (hb : DE c X b fb) : DE c X (.BinOp a op b pos) (eOp g fa fb) := by
  obtain ⟨ta, pa, sa⟩ := ha.ex
  obtain ⟨tb, pb, sb⟩ := hb.ex
  exact ⟨tOp rr ta tb, pe_op ho pa pb, so_op hg sa sb⟩
theorem de_cmp {op : CmpOp} {rr : R2} {g : O → O → Res R} (ho : OpR X (compareOp op) rr) (hg : PureR X.K rr g) (ha : DE c X a fa) (hb : DE c X b fb) (hm : behindInMarks op b = false) : DE c X (.Compare a [op] [b] pos) (eOp g fa fb) := by
  obtain ⟨ta, pa, sa⟩ := ha.ex
  obtain ⟨tb, pb, sb⟩ := hb.ex
  exact ⟨tOp rr ta tb, pe_cmpR ho pa pb hm, so_op hg sa sb⟩
def toB (x : R) : Res Bool := match x.a with
  | .fz (.bl b) => .ok b
  | _ => .bad
def tOf (f : FE) : Env → Res Bool := fun r => (f r).bind toB
theorem so_test {K : PySem.W.Frag} {t : TE} (h : SoE c K t f) : SoT c K (tTest t) (tOf f) := fun r s Hf H L sr Q q => by
  refine h.run sr pstT q fun x v Hf1 H1 x1 sr1 a1 q1 => ?_
  have a2 := a1.a sr1.same0
  cases ex : x.a with
  | ls os => simp only [toB, ex] at q1; exact q1.elim
  | tp os => simp only [toB, ex] at q1; exact q1.elim
  | ob _ _ _ => simp only [toB, ex] at q1; exact q1.elim
  | dt _ _ => simp only [toB, ex] at q1; exact q1.elim
  | dk _ _ => simp only [toB, ex] at q1; exact q1.elim
  | gh _ _ _ => simp only [toB, ex] at q1; exact q1.elim
  | fz d =>
    rw [ex] at a2
    cases d with
    | bl b =>
      simp only [toB, ex] at q1
      exact ⟨b, a2, q1 Hf1 H1 (Ext.refl sr1.sub)⟩
    | non => simp only [toB, ex] at q1; exact q1.elim
    | int i => simp only [toB, ex] at q1; exact q1.elim
    | str i => simp only [toB, ex] at q1; exact q1.elim
    | ex _ => simp only [toB, ex] at q1; exact q1.elim
    | scr _ => simp only [toB, ex] at q1; exact q1.elim
    | lst _ => simp only [toB, ex] at q1; exact q1.elim
    | tup _ => simp only [toB, ex] at q1; exact q1.elim
    | obj _ _ _ => simp only [toB, ex] at q1; exact q1.elim
    | row _ _ => simp only [toB, ex] at q1; exact q1.elim
    | dct _ _ => simp only [toB, ex] at q1; exact q1.elim
    | dck _ _ => simp only [toB, ex] at q1; exact q1.elim
theorem dt_cmp {op : CmpOp} {rr : R2} {g : O → O → Res R} (ho : OpR X (compareOp op) rr) (hg : PureR X.K rr g) (ha : DE c X a fa) (hb : DE c X b fb) (hm : behindInMarks op b = false) : DT c X (.Compare a [op] [b] pos) (tOf (eOp g fa fb)) := by
  obtain ⟨ta, pa, sa⟩ := ha.ex
  obtain ⟨tb, pb, sb⟩ := hb.ex
  exact ⟨tTest (tOp rr ta tb), pt_cmpR ho pa pb hm, so_test (so_op hg sa sb)⟩
theorem dt_val (h : DE c X e f) (he : ∀ whole, isTrue e X.env whole = (do let v ← whole; standAt e.pos; holding [v] (truthy v)) := by intro _; rfl) : DT c X e (tOf f) := by
  obtain ⟨t, p, s⟩ := h.ex
  exact ⟨tB t, pt_val p he, so_test s⟩
def tAndD (f g : Env → Res Bool) : Env → Res Bool := fun r => (f r).bind fun b => if b then g r else .ok false
def tOrD (f g : Env → Res Bool) : Env → Res Bool := fun r => (f r).bind fun b => if b then .ok true else g r
def tNotD (f : Env → Res Bool) : Env → Res Bool := fun r => (f r).bind fun b => .ok (!b)
variable {f1 f2 : Env → Res Bool} {rest : List Expr}
theorem dw_and1 (h : DT c X a f1) : DW c X (.BoolOp .And [a] pos) f1 := let ⟨t, p, s⟩ := h.ex; ⟨t, pw_and1 p, s⟩
theorem dw_or1 (h : DT c X a f1) : DW c X (.BoolOp .Or [a] pos) f1 := let ⟨t, p, s⟩ := h.ex; ⟨t, pw_or1 p, s⟩
theorem dw_and (h1 : DT c X a f1) (h2 : DW c X (.BoolOp .And (b :: rest) pos) f2) : DW c X (.BoolOp .And (a :: b :: rest) pos) (tAndD f1 f2) := by
  obtain ⟨t, p, s⟩ := h1.ex
  obtain ⟨u, p2, s2⟩ := h2.ex
  refine ⟨tAnd t u, pw_and p p2, fun r s' Hf H L sr Q q => ?_⟩
  refine s.run sr pstT q fun b Hf1 H1 x1 sr1 q1 => ?_
  cases b with
  | true => exact s2 r s' Hf1 H1 L sr1 Q q1
  | false => exact q1 Hf1 H1 (Ext.refl sr1.sub)
theorem dw_or (h1 : DT c X a f1) (h2 : DW c X (.BoolOp .Or (b :: rest) pos) f2) : DW c X (.BoolOp .Or (a :: b :: rest) pos) (tOrD f1 f2) := by
  obtain ⟨t, p, s⟩ := h1.ex
  obtain ⟨u, p2, s2⟩ := h2.ex
  refine ⟨tOr t u, pw_or p p2, fun r s' Hf H L sr Q q => ?_⟩
  refine s.run sr pstT q fun b Hf1 H1 x1 sr1 q1 => ?_
  cases b with
  | true => exact q1 Hf1 H1 (Ext.refl sr1.sub)
  | false => exact s2 r s' Hf1 H1 L sr1 Q q1
theorem dt_w (h : DW c X e f1) : DT c X e f1 := let ⟨t, p, s⟩ := h.ex; ⟨t, p.pt, s⟩
theorem dt_not (h : DT c X a f1) : DT c X (.UnaryOp .Not a pos) (tNotD f1) := by
  obtain ⟨t, p, s⟩ := h.ex
  refine ⟨tNot t, pt_not p, fun r s' Hf H L sr Q q => ?_⟩
  exact s.run sr pstT q fun b Hf1 H1 x1 sr1 q1 => q1 Hf1 H1 (Ext.refl sr1.sub)
def onB {β : Type} (o : O) (k : Bool → Res β) : Res β := match o with
  | .fz (.bl b) => k b
  | _ => .bad
def eAnd (f g : FE) : FE := fun r => (f r).bind fun x => onB x.a fun b => if b then g r else .ok (.nw (.fz (.bl false)))
def eOr (f g : FE) : FE := fun r => (f r).bind fun x => onB x.a fun b => if b then .ok (.nw (.fz (.bl true))) else g r
def eNot (f : FE) : FE := fun r => (f r).bind fun x => onB x.a fun b => .ok (.nw (.fz (.bl (!b))))
theorem de_one {op} (h : DE c X a f) : DE c X (.BoolOp op [a] pos) f := let ⟨t, p, s⟩ := h.ex; ⟨t, pe_one p, s⟩
theorem bl_of {K : PySem.W.Frag} {Hf H : Hp} {o : O} {v : V} {c : Cn} {s : St} {Q : VK} {k : Bool → Res R} (h : RepV K Hf H o v)
    (q : PostE c K s Hf H Q (onB o k)) : ∃ b, v = .bl b ∧ PostE c K s Hf H Q (k b) := by
  cases o with
  | ls _ => exact q.elim
  | tp _ => exact q.elim
  | ob _ _ _ => exact q.elim
  | dt _ _ => exact q.elim
  | dk _ _ => exact q.elim
  | gh _ _ _ => exact q.elim
  | fz d =>
    cases d with
    | bl b => exact ⟨b, h, q⟩
    | non => exact q.elim
    | int i => exact q.elim
    | str i => exact q.elim
    | ex _ => exact q.elim
    | scr _ => exact q.elim
    | lst _ => exact q.elim
    | tup _ => exact q.elim
    | obj _ _ _ => exact q.elim
    | row _ _ => exact q.elim
    | dct _ _ => exact q.elim
    | dck _ _ => exact q.elim
theorem de_and (h1 : DE c X a f) (h2 : DE c X (.BoolOp .And (b :: rest) pos) g) : DE c X (.BoolOp .And (a :: b :: rest) pos) (eAnd f g) := by
  obtain ⟨t, p, s⟩ := h1.ex
  obtain ⟨u, p2, s2⟩ := h2.ex
  refine ⟨tAndV t u, pe_and p p2, fun r s' Hf H L sr Q q => ?_⟩
  refine s.run sr pstE q fun x v Hf1 H1 x1 sr1 a1 q1 => ?_
  obtain ⟨b, e, q2⟩ := bl_of (a1.a sr1.same0) q1
  refine ⟨b, e, ?_⟩
  cases b with
  | true => exact s2 r s' Hf1 H1 L sr1 Q q2
  | false => exact postE_fz sr1.sub q2 rfl
theorem de_or (h1 : DE c X a f) (h2 : DE c X (.BoolOp .Or (b :: rest) pos) g) : DE c X (.BoolOp .Or (a :: b :: rest) pos) (eOr f g) := by
  obtain ⟨t, p, s⟩ := h1.ex
  obtain ⟨u, p2, s2⟩ := h2.ex
  refine ⟨tOrV t u, pe_or p p2, fun r s' Hf H L sr Q q => ?_⟩
  refine s.run sr pstE q fun x v Hf1 H1 x1 sr1 a1 q1 => ?_
  obtain ⟨b, e, q2⟩ := bl_of (a1.a sr1.same0) q1
  refine ⟨b, e, ?_⟩
  cases b with
  | true => exact postE_fz sr1.sub q2 rfl
  | false => exact s2 r s' Hf1 H1 L sr1 Q q2
theorem de_not (h1 : DE c X a f) : DE c X (.UnaryOp .Not a pos) (eNot f) := by
  obtain ⟨t, p, s⟩ := h1.ex
  refine ⟨tNotV t, pe_not p, fun r s' Hf H L sr Q q => ?_⟩
  refine s.run sr pstE q fun x v Hf1 H1 x1 sr1 a1 q1 => ?_
  obtain ⟨b, e, q2⟩ := bl_of (a1.a sr1.same0) q1
  exact ⟨b, e, postE_fz sr1.sub q2 rfl⟩
def fzR (d : D) : Res R := .ok (.nw (.fz d))
def gInt (C : Int → Int → Bool) (h : Int → Int → D) : O → O → Res R
  | .fz (.int i), .fz (.int j) => if C i j then fzR (h i j) else .bad
  | _, _ => .bad
theorem int2 {K : PySem.W.Frag} {Hf H : Hp} {a b : O} {x y : V} {s : St} {Q : VK} {C : Int → Int → Bool} {h : Int → Int → D} (ha : RepV K Hf H a x) (hb : RepV K Hf H b y) (q : PostE c K s Hf H Q (gInt C h a b)) :
    ∃ i j, x = .int i ∧ y = .int j ∧ C i j = true ∧ PostE c K s Hf H Q (fzR (h i j)) := by
  cases a with
  | ls _ => exact q.elim
  | tp _ => exact q.elim
  | ob _ _ _ => exact q.elim
  | dt _ _ => exact q.elim
  | dk _ _ => exact q.elim
  | gh _ _ _ => exact q.elim
  | fz d =>
    cases d with
    | int i =>
      cases b with
      | ls _ => exact q.elim
      | tp _ => exact q.elim
      | ob _ _ _ => exact q.elim
      | dt _ _ => exact q.elim
      | dk _ _ => exact q.elim
      | gh _ _ _ => exact q.elim
      | fz d =>
        cases d with
        | int j =>
          refine ⟨i, j, ha, hb, ?_⟩
          simp only [gInt] at q
          by_cases hc : C i j = true
          · rw [if_pos hc] at q; exact ⟨hc, q⟩
          · rw [if_neg hc] at q; exact q.elim
        | _ => exact q.elim
    | _ => exact q.elim
theorem pure_I0 {K : PySem.W.Frag} {g : Int → Int → V} {h : Int → Int → D} (hh : ∀ i j H, Rep K H (h i j) (g i j)) : PureR K (rI0 g) (gInt (fun _ _ => true) h) := fun c s Hf H x y a b Q sub ha hb q => by
  obtain ⟨i, j, e1, e2, _, q⟩ := int2 ha hb q
  exact ⟨i, j, e1, e2, postE_fz sub q (hh i j Hf)⟩
theorem pure_I {K : PySem.W.Frag} {C : Int → Int → Bool} {C' : Int → Int → Prop} {g : Int → Int → V} {h : Int → Int → D} (hC : ∀ i j, C i j = true → C' i j) (hh : ∀ i j H, Rep K H (h i j) (g i j)) : PureR K (rI C' g) (gInt C h) := fun c s Hf H x y a b Q sub ha hb q => by
  obtain ⟨i, j, e1, e2, hc, q⟩ := int2 ha hb q
  exact ⟨i, j, e1, e2, hC i j hc, postE_fz sub q (hh i j Hf)⟩
def yes2 : Int → Int → Bool := fun _ _ => true
def gAdd := gInt yes2 fun i j => .int (i + j)
def gSub := gInt yes2 fun i j => .int (i - j)
def CMulH (i j : Int) : Prop := i.natAbs.log2 + j.natAbs.log2 < 100000000
theorem bits_log (x : Int) : Builtin.Int.intBits x ≤ x.natAbs.log2 + 1 := by
  unfold Builtin.Int.intBits
  split <;> omega
theorem CMulH.ok {i j : Int} (h : CMulH i j) : CMulX i j := by
  have a := bits_log i
  have b := bits_log j
  unfold CMulH at h
  unfold CMulX
  omega
theorem op_mulH : OpR X (binaryOp .Mult) (rI CMulH fun i j => .int (i * j)) := opI fun _ _ _ _ _ _ _ hc q => PyProof.Rows.mul_int q hc.ok.ok
def mulOk (i j : Int) : Bool := decide (i.natAbs.log2 + j.natAbs.log2 < 100000000)
def gMul := gInt mulOk fun i j => .int (i * j)
def divOk (_ j : Int) : Bool := decide (j ≠ 0 ∧ j.natAbs.log2 < 9000)
def gDiv := gInt divOk fun i j => .int (i.fdiv j)
def modOk (_ j : Int) : Bool := decide (j ≠ 0)
def gMod := gInt modOk fun i j => .int (i.fmod j)
def gLt := gInt yes2 fun i j => .bl (decide (i < j))
def gLe := gInt yes2 fun i j => .bl (decide (i ≤ j))
def gGt := gInt yes2 fun i j => .bl (decide (j < i))
def gGe := gInt yes2 fun i j => .bl (decide (j ≤ i))
theorem op_fdivD : OpR X (binaryOp .FloorDiv) (rI (fun _ j => j ≠ 0 ∧ j.natAbs.log2 < 9000) fun i j => .int (i.fdiv j)) := opI fun _ _ _ _ _ _ _ hc q => PyProof.Rows.floordiv_int hc.1 q (.inl (PyProof.noPylong_of_log2 hc.2))
theorem de_sub (ha : DE c X a fa) (hb : DE c X b fb) : DE c X (.BinOp a .Sub b pos) (eOp gSub fa fb) := de_op op_sub (pure_I0 fun _ _ _ => rfl) ha hb
theorem de_fdiv (ha : DE c X a fa) (hb : DE c X b fb) : DE c X (.BinOp a .FloorDiv b pos) (eOp gDiv fa fb) := de_op op_fdivD (pure_I (fun i j h => of_decide_eq_true h) fun _ _ _ => rfl) ha hb
theorem de_mod (ha : DE c X a fa) (hb : DE c X b fb) : DE c X (.BinOp a .Mod b pos) (eOp gMod fa fb) := de_op op_modN (pure_I (fun i j h => of_decide_eq_true h) fun _ _ _ => rfl) ha hb
theorem pu_lt : PureR X.K (rI0 fun i j => .bl (decide (i < j))) gLt := pure_I0 fun _ _ _ => rfl
theorem pu_le : PureR X.K (rI0 fun i j => .bl (decide (i ≤ j))) gLe := pure_I0 fun _ _ _ => rfl
theorem pu_gt : PureR X.K (rI0 fun i j => .bl (decide (j < i))) gGt := pure_I0 fun _ _ _ => rfl
theorem pu_ge : PureR X.K (rI0 fun i j => .bl (decide (j ≤ i))) gGe := pure_I0 fun _ _ _ => rfl
theorem dt_lt (ha : DE c X a fa) (hb : DE c X b fb) : DT c X (.Compare a [.Lt] [b] pos) (tOf (eOp gLt fa fb)) := dt_cmp op_lt pu_lt ha hb (nomark _)
theorem dt_le (ha : DE c X a fa) (hb : DE c X b fb) : DT c X (.Compare a [.LtE] [b] pos) (tOf (eOp gLe fa fb)) := dt_cmp op_le pu_le ha hb (nomark _)
theorem dt_gt (ha : DE c X a fa) (hb : DE c X b fb) : DT c X (.Compare a [.Gt] [b] pos) (tOf (eOp gGt fa fb)) := dt_cmp op_gt pu_gt ha hb (nomark _)
theorem de_lt (ha : DE c X a fa) (hb : DE c X b fb) : DE c X (.Compare a [.Lt] [b] pos) (eOp gLt fa fb) := de_cmp op_lt pu_lt ha hb (nomark _)
theorem de_le (ha : DE c X a fa) (hb : DE c X b fb) : DE c X (.Compare a [.LtE] [b] pos) (eOp gLe fa fb) := de_cmp op_le pu_le ha hb (nomark _)
theorem de_gt (ha : DE c X a fa) (hb : DE c X b fb) : DE c X (.Compare a [.Gt] [b] pos) (eOp gGt fa fb) := de_cmp op_gt pu_gt ha hb (nomark _)
theorem de_ge (ha : DE c X a fa) (hb : DE c X b fb) : DE c X (.Compare a [.GtE] [b] pos) (eOp gGe fa fb) := de_cmp op_ge pu_ge ha hb (nomark _)
def eUn (g : O → Res R) (fa : FE) : FE := fun r => (fa r).bind fun x => g x.a
def gNeg : O → Res R
  | .fz (.int i) => fzR (.int (-i))
  | _ => .bad
theorem de_neg (ha : DE c X a fa) : DE c X (.UnaryOp .USub a pos) (eUn gNeg fa) := by
  obtain ⟨t, p, s⟩ := ha.ex
  refine ⟨tUn (rU fun i => .int (-i)) t, pe_un un_neg p, fun r s' Hf H L sr Q q => ?_⟩
  refine s.run sr pstE q fun x v Hf1 H1 x1 sr1 a1 q1 => ?_
  have a2 := a1.a sr1.same0
  revert q1 a2
  cases x.a with
  | ls _ => exact fun q _ => q.elim
  | tp _ => exact fun q _ => q.elim
  | ob _ _ _ => exact fun q _ => q.elim
  | dt _ _ => exact fun q _ => q.elim
  | dk _ _ => exact fun q _ => q.elim
  | gh _ _ _ => exact fun q _ => q.elim
  | fz d => cases d with
    | int i => exact fun q a2 => ⟨i, a2, postE_fz sr1.sub q rfl⟩
    | _ => exact fun q _ => q.elim
end DL
namespace DL
open PySem L2
variable {c : Cn} {X : Cx} {a b e : Expr} {es : List Expr} {f g fa fb : FE} {pos : Pos} {fs : Env → Res (List O)} {K : PySem.W.Frag} {H0 H H' Hf Hf' : Hp}
def aNil : Env → Res (List O) := fun _ => .ok []
def aCons (f : FE) (fs : Env → Res (List O)) : Env → Res (List O) := fun r => (f r).bind fun x => (fs r).bind fun xs => .ok (x.a :: xs)
theorem da_nil : DA c X [] aNil := ⟨tNil, pa_nil, fun r s Hf H L sr Q q => q [] Hf H (Ext.refl sr.sub) rfl⟩
theorem da_cons (h : DE c X e f) (hs : DA c X es fs) (hst : starEach (e :: es) X.env = (false, eval e X.env) :: starEach es X.env := by rfl) : DA c X (e :: es) (aCons f fs) := by
  obtain ⟨t, p, s⟩ := h.ex
  obtain ⟨ts, ps, ss⟩ := hs.ex
  refine ⟨tCons t ts, pa_cons p ps hst, fun r s' Hf H L sr Q q => ?_⟩
  refine s.run sr pstA q fun x v Hf1 H1 x1 sr1 a1 q1 => ?_
  refine ss.run sr1 pstA q1 fun os vs Hf2 H2 x2 sr2 a2 q2 => ?_
  exact q2 _ Hf2 H2 (Ext.refl sr2.sub) ⟨v, vs, rfl, (a1.mono x2.fsame x2.same).a sr2.same0, a2⟩
def eLst (fs : Env → Res (List O)) : FE := fun r => (fs r).bind fun os => if allFz os && decide (os.length ≤ 1000) then .ok (.nw (.ls os)) else .bad
theorem de_lst (h : DA c X es fs) : DE c X (.List es pos) (eLst fs) := by
  obtain ⟨t, p, s⟩ := h.ex
  refine ⟨tLst t, pe_lst p, fun r s' Hf H L sr Q q => ?_⟩
  refine s.run sr pstE q fun os vs Hf1 H1 x1 sr1 a1 q1 => ?_
  by_cases hc : (allFz os && decide (os.length ≤ 1000)) = true
  · rw [if_pos hc] at q1
    simp only [Bool.and_eq_true, decide_eq_true_eq] at hc
    exact ⟨by rw [RepVs.length a1]; exact Nat.le_trans hc.2 (by decide), fun p hp => postE_ls sr1.sub q1 hc.1 a1 hp⟩
  · rw [if_neg hc] at q1; exact q1.elim
def toDs : List O → Option (List D)
  | [] => some []
  | .fz d :: r => (toDs r).map (d :: ·)
  | _ :: _ => none
theorem toDs_rep : ∀ {os : List O} {ds : List D} {vs : List V}, toDs os = some ds → RepVs K Hf H os vs → Reps K Hf ds vs
  | [], ds, vs, e, h => by
    have e' : ([] : List D) = ds := Option.some.inj e
    subst e'; exact h
  | .fz d :: os, ds, vs, e, h => by
    obtain ⟨v, r, e1, h1, h2⟩ := h
    cases e2 : toDs os with
    | none => simp [toDs, e2] at e
    | some r' =>
      have e' : d :: r' = ds := by simpa [toDs, e2] using e
      subst e'
      exact ⟨v, r, e1, h1, toDs_rep e2 h2⟩
  | .ls _ :: _, _, _, e, _ => by cases e
  | .tp _ :: _, _, _, e, _ => by cases e
  | .ob _ _ _ :: _, _, _, e, _ => by cases e
  | .dt _ _ :: _, _, _, e, _ => by cases e
  | .dk _ _ :: _, _, _, e, _ => by cases e
def tupR (os : List O) : Res R := match toDs os with
  | some ds => if ds.length ≤ 1000 then .ok (.nw (.fz (.tup ds))) else .bad
  | none => .bad
def eTup (fs : Env → Res (List O)) : FE := fun r => (fs r).bind tupR
theorem de_tup {k} (h : DA c X es fs) : DE c X (.Tuple es k pos) (eTup fs) := by
  obtain ⟨t, p, s⟩ := h.ex
  refine ⟨tTup t, pe_tup p, fun r s' Hf H L sr Q q => ?_⟩
  refine s.run sr pstE q fun os vs Hf1 H1 x1 sr1 a1 q1 => ?_
  cases e : toDs os with
  | none => simp only [tupR, e] at q1; exact q1.elim
  | some ds =>
    simp only [tupR, e] at q1
    have a2 := toDs_rep e a1
    by_cases hc : ds.length ≤ 1000
    · rw [if_pos hc] at q1
      exact ⟨by rw [Reps.length a2]; exact Nat.le_trans hc (by decide), fun p hp => postE_tup sr1.sub q1 a2 hp⟩
    · rw [if_neg hc] at q1; exact q1.elim
def PureC (K : PySem.W.Frag) (rr : List V → Hp → VK → Prop) (g : List O → Res R) : Prop := ∀ (c : Cn) (s : St) (Hf H : Hp) (vs : List V) (os : List O) (Q : VK), Same Hf H → RepVs K Hf H os vs → PostE c K s Hf H Q (g os) → rr vs H Q
def eB (g : List O → Res R) (fs : Env → Res (List O)) : FE := fun r => (fs r).bind g
theorem so_B {rr : List V → Hp → VK → Prop} {g : List O → Res R} {t : TA} (hg : PureC K rr g) (h : SoA c K t fs) : SoE c K (tCB rr t) (eB g fs) := fun r s Hf H L sr Q q => by
  refine h.run sr pstE q fun os vs Hf1 H1 x1 sr1 a1 q1 => ?_
  exact hg c s Hf1 H1 vs os Q sr1.sub a1 q1
section
variable {x : Str} {p : Pos} {id : String} {rr : List V → Hp → VK → Prop} {gB : List O → Res R}
theorem de_B (hc : CallR X (.builtin id) rr) (hp : PureC X.K rr gB) (hg : Gl X x) (hm : X.mg x = none) (hv : bootBuiltins x = some (.builtin id)) (h : DA c X (e :: es) fs) (hn : x ≠ "__name__" := by decide) (hdb : (x == ("__debug__" : Str)) = false := by decide)
    (he : starEach (e :: es) X.env = (false, eval e X.env) :: starEach es X.env := by rfl) (hpl : (backTo pos (starEach es X.env)).any (·.1) = false := by rfl) : DE c X (.Call (.Name x p) (e :: es) [] pos) (eB gB fs) := by
  obtain ⟨t, pa, s⟩ := h.ex
  exact ⟨tCB rr t, pe_callB hc hg hm hv pa hn hdb he hpl, so_B hp s⟩
theorem de_Ty (hc : CallR X (.type id) rr) (hp : PureC X.K rr gB) (hg : Gl X x) (hm : X.mg x = none) (hv : bootBuiltins x = some (.type id)) (h : DA c X (e :: es) fs) (hn : x ≠ "__name__" := by decide) (hdb : (x == ("__debug__" : Str)) = false := by decide)
    (he : starEach (e :: es) X.env = (false, eval e X.env) :: starEach es X.env := by rfl) (hpl : (backTo pos (starEach es X.env)).any (·.1) = false := by rfl) : DE c X (.Call (.Name x p) (e :: es) [] pos) (eB gB fs) := by
  obtain ⟨t, pa, s⟩ := h.ex
  exact ⟨tCB rr t, pe_callTy hc hg hm hv pa hn hdb he hpl, so_B hp s⟩
end
def spD (K : PySem.W.Frag) (n : Nat) (F : List O → Res O) : Sp := fun vs H Q E => ∃ Hf os, Same Hf H ∧ Rows (tK K) Hf H ∧ RepVs K Hf H os vs ∧ os.length = n ∧ match F os with
  | .ok o => ∀ v Hf' H' L, Ext Hf H Hf' H' → RepO K Hf' H' o v L → Nw H Hf' H' L → Q v H'
  | .exc e => ∀ cls d Hf' H', Ext Hf H Hf' H' → EcR K e cls d Hf' → E cls d H'
  | .bad => False
structure Def (P : Program) (w : World) (K : PySem.W.Frag) (mg : Str → Option Value) (base : Heap) (x : Str) (k n : Nat) (F : List O → Res O) : Prop where
  ex : ∃ f fd ps, FnOk P w K mg base (L2.CX P w) k f fd ps (spD K n F) ∧ mg x = some (.ref f) ∧ PySem.W.keepIn K (.ref f) = true ∧ Binds K fd ps [] ∧ ps.length = n
structure Bk (c : Cn) (X : Cx) (k : Nat) : Prop where
  hr : Room k X.A
  tk : Takes X c.W
  po : PassesOwn (model X.prog X.w) X.A X.env X.xe
  calm : X.calm = true
def eCall (F : List O → Res O) (fs : Env → Res (List O)) : FE := fun r => (fs r).bind fun os => (F os).bind fun o => .ok (.nw o)
theorem de_call {x : Str} {p : Pos} {j k n : Nat} {F : List O → Res O} (G : Def X.prog X.w X.K X.mg X.base x j n F) (B : Bk c X k) (hj : j ≤ k) (hg : Gl X x) (h : DA c X (e :: es) fs) (hl : (e :: es).length = n)
    (hdb : (x == ("__debug__" : Str)) = false := by decide) (he : starEach (e :: es) X.env = (false, eval e X.env) :: starEach es X.env := by rfl) (hpl : (backTo pos (starEach es X.env)).any (·.1) = false := by rfl)
    (hlen : ∀ r os, fs r = .ok os → os.length = n) : DE c X (.Call (.Name x p) (e :: es) [] pos) (eCall F fs) := by
  obtain ⟨fa, fd, ps, Fo, hm, hk, hb, hn⟩ := G.ex
  obtain ⟨t, pa, s⟩ := h.ex
  refine ⟨tCallS (spD X.K n F) (WE c.W) t, pe_callS Fo (B.hr.mono hj) hg hm hk hb (fun σ => passAt B.tk σ) pa hdb he hpl, fun r s' Hf H L sr Q q => ?_⟩
  refine s r s' Hf H L sr _ ?_
  cases e0 : fs r with
  | bad => simp only [eCall, e0, Res.bind] at q; exact q.elim
  | exc e' => simp only [eCall, e0, Res.bind] at q; exact q
  | ok os =>
    simp only [eCall, e0, Res.bind] at q
    intro vs Hf1 H1 x1 a1
    refine ⟨Hf1, os, x1.sub, x1.rows sr.rows, a1, hlen r os e0, ?_⟩
    cases e1 : F os with
    | bad => rw [e1] at q; exact q.elim
    | exc e' =>
      rw [e1] at q
      exact fun cls d Hf2 H2 x2 h2 => q cls d Hf2 H2 (x1.trans x2) h2
    | ok o =>
      rw [e1] at q
      exact fun v Hf2 H2 L2 x2 h2 n2 => q v Hf2 H2 L2 (x1.trans x2) h2 (n2.mono x1.same)
def Ar (fs : Env → Res (List O)) (n : Nat) : Prop := ∀ r os, fs r = .ok os → os.length = n
theorem ar_nil : Ar aNil 0 := fun r os e => by cases e; rfl
theorem ar_cons {n : Nat} (h : Ar fs n) : Ar (aCons f fs) (n + 1) := fun r os e => by
  cases e1 : f r with
  | bad => simp [aCons, e1, Res.bind] at e
  | exc _ => simp [aCons, e1, Res.bind] at e
  | ok x =>
    cases e2 : fs r with
    | bad => simp [aCons, e1, e2, Res.bind] at e
    | exc _ => simp [aCons, e1, e2, Res.bind] at e
    | ok xs =>
      simp [aCons, e1, e2, Res.bind] at e
      subst e
      simp [h r xs e2]
def sSeq (f g : FS) : FS := fun r => match f r with
  | .nx r' => g r'
  | o => o
def sNil : FS := fun r => .nx r
variable {F G : FS} {st : Stmt} {sts : List Stmt}
theorem dss_nil : DSs c X [] sNil := ⟨tNext, pss_nil, fun r s Hf H L sr D q => q s Hf H L (Same.refl _) sr⟩
theorem so_seq {t u : TS} (h1 : SoS c K t F) (h2 : SoS c K u G) : SoS c K (tSeq t u) (sSeq F G) := fun r s Hf H L sr D q => by
  refine h1 r s Hf H L sr _ ?_
  cases e : F r with
  | nx r' =>
    simp only [sSeq, e] at q
    exact fun s1 Hf1 H1 L1 f1 sr1 => h2 r' s1 Hf1 H1 L1 sr1 D (q.mono f1)
  | bk r' => simp only [sSeq, e] at q; exact q
  | ct r' => simp only [sSeq, e] at q; exact q
  | ret o => simp only [sSeq, e] at q; exact q
  | exc e' r' => simp only [sSeq, e] at q; exact q
  | bad => simp only [sSeq, e] at q; exact q.elim
theorem dss_cons (h1 : DS c X st F) (h2 : DSs c X sts G) : DSs c X (st :: sts) (sSeq F G) := by
  obtain ⟨t, p, s⟩ := h1.ex
  obtain ⟨u, p2, s2⟩ := h2.ex
  exact ⟨tSeq t u, pss_cons p p2, so_seq s s2⟩
theorem dss_one (h1 : DS c X st F) : DSs c X [st] F := let ⟨t, p, s⟩ := h1.ex; ⟨t, pss_one p, s⟩
def sUse (f : FE) (k : R → Env → Out) : FS := fun r => match f r with
  | .ok x => k x r
  | .exc e => .exc e r
  | .bad => .bad
theorem SoE.use {t : TE} {r : Env} {s : St} {L : List Addr} (h : SoE c K t f) (sr : c.SR K r s Hf H L) {k : R → Env → Out} {D : Ends} (q : PostS c K Hf D (sUse f k r)) {Q : VK}
    (hq : ∀ x v Hf1 H1 L1, Ext Hf H Hf1 H1 → c.SR K r s Hf1 H1 L → ResR K c.H0 Hf1 H1 x v L1 → Nw H Hf1 H1 L1 → PostS c K Hf1 D (k x r) → Q v H1) : t s H Q := by
  refine h r s Hf H L sr Q ?_
  cases e : f r with
  | bad => simp only [sUse, e] at q; exact q.elim
  | exc e' =>
    simp only [sUse, e] at q
    exact fun cls d Hf1 H1 x1 h1 => q s cls d Hf1 H1 L x1.fsame (sr.mono x1) h1
  | ok x =>
    simp only [sUse, e] at q
    exact fun v Hf1 H1 L1 x1 a1 n1 => hq x v Hf1 H1 L1 x1 (sr.mono x1) a1 n1 (q.mono x1.fsame)
theorem SoT.use {t : TT} {ft : Env → Res Bool} {r : Env} {s : St} {L : List Addr} (h : SoT c K t ft) (sr : c.SR K r s Hf H L) {k : Bool → Env → Out} {D : Ends}
    (q : PostS c K Hf D (match ft r with | .ok b => k b r | .exc e => .exc e r | .bad => .bad)) {Q : Bool → Hp → Prop}
    (hq : ∀ b Hf1 H1, Ext Hf H Hf1 H1 → c.SR K r s Hf1 H1 L → PostS c K Hf1 D (k b r) → Q b H1) : t s H Q := by
  refine h r s Hf H L sr Q ?_
  cases e : ft r with
  | bad => simp only [e] at q; exact q.elim
  | exc e' =>
    simp only [e] at q
    exact fun cls d Hf1 H1 x1 h1 => q s cls d Hf1 H1 L x1.fsame (sr.mono x1) h1
  | ok x =>
    simp only [e] at q
    exact fun Hf1 H1 x1 => hq x Hf1 H1 x1 (sr.mono x1) (q.mono x1.fsame)
def put (own : Bool) : R → Option S
  | .nw o => some (.vl true (if own then o else .fz (er o)))
  | .vw _ => none
  | .bw o => some (.vl false o)
def setS (r : Env) (i : Nat) (x : Option S) : Out := match x with
  | some y => if i < r.length then .nx (r.set i y) else .bad
  | none => .bad
theorem SR.store {r : Env} {s : St} {L L1 : List Addr} {x : R} {v : V} {i : Nat} {own : Bool} {y : S} (sr : c.SR K r s Hf' H' L) (x1 : Ext Hf H Hf' H') (s0 : ∀ a, c.H0 a ≠ none → H a ≠ none) (hL : ∀ a ∈ L, H a ≠ none)
    (a1 : ResR K c.H0 Hf' H' x v L1) (n1 : Nw H Hf' H' L1) (hy : put own x = some y) (hi : i < r.length) : ∃ Hf2 L2, Same Hf' Hf2 ∧ c.SR K (r.set i y) (s.set i (some v)) Hf2 H' L2 := by
  obtain ⟨z, hz⟩ : ∃ z, r[i]? = some z := ⟨r[i], by simp [hi]⟩
  obtain ⟨w, A, M, B, h1, h2, h3, h4⟩ := sr.env.at hz
  have dis : ∀ a ∈ L1, a ∉ L := fun a ha hb => hL a hb (n1.fr a ha).1
  have nd2 : (A ++ B).Nodup := by
    have := sr.nd
    rw [h2] at this
    simp only [List.nodup_append, List.mem_append] at this ⊢
    obtain ⟨⟨n1, n2, n3⟩, n4, n5⟩ := this
    exact ⟨n1, n4, fun a ha b hb => n5 a (.inl ha) b hb⟩
  have sub2 : ∀ a ∈ A ++ B, a ∈ L := fun a ha => by
    rw [h2]; simp only [List.mem_append] at ha ⊢
    rcases ha with ha | ha
    · exact .inl (.inl ha)
    · exact .inr ha
  have key : ∀ (M' : List Addr) (Hf2 : Hp), Same Hf' Hf2 → SlotR K Hf2 c.H0 H' y (some v) M' → (∀ a ∈ M', a ∈ L1) → M'.Nodup → (∀ a ∈ M', Hf2 a = none) → (∀ a ∈ L, Hf2 a = none) → Ext c.Hf0 c.H0 Hf2 H' → Rows (tK K) Hf2 H' → c.SR K (r.set i y) (s.set i (some v)) Hf2 H' (A ++ M' ++ B) := fun M' Hf2 f q m1 m2 m3 m4 m5 m6 => by
    refine ⟨m5, h4 Hf2 H' y (some v) M' f Tst.rf (fun _ _ _ e => e) q, ?_, fun a ha => ?_, fun a ha => ?_, m6⟩
    · simp only [List.nodup_append, List.mem_append] at nd2 ⊢
      obtain ⟨n1', n2', n3'⟩ := nd2
      refine ⟨⟨n1', m2, fun a ha b hb e => ?_⟩, n2', fun a ha b hb e => ?_⟩
      · subst e; exact dis a (m1 a hb) (sub2 a (by simp [ha]))
      · subst e
        rcases ha with ha | ha
        · exact n3' a ha a hb rfl
        · exact dis a (m1 a ha) (sub2 a (by simp [hb]))
    · simp only [List.mem_append] at ha
      rcases ha with (ha | ha) | ha
      · exact ⟨m4 a (sub2 a (by simp [ha])), (sr.fr a (sub2 a (by simp [ha]))).2⟩
      · refine ⟨m3 a ha, ?_⟩
        cases e : c.H0 a with
        | none => rfl
        | some o => exact absurd (n1.fr a (m1 a ha)).1 (s0 a (by rw [e]; simp))
      · exact ⟨m4 a (sub2 a (by simp [ha])), (sr.fr a (sub2 a (by simp [ha]))).2⟩
    · simp only [List.mem_append] at ha
      rcases ha with (ha | ha) | ha
      · exact sr.ok a (sub2 a (by simp [ha]))
      · exact (n1.fr a (m1 a ha)).2.2
      · exact sr.ok a (sub2 a (by simp [ha]))
  cases x with
  | nw o =>
    cases own with
    | true =>
      simp only [put, if_true, Option.some.injEq] at hy
      subst hy
      exact ⟨Hf', _, Same.refl _, key L1 Hf' (Same.refl _) a1 (fun _ h => h) n1.nd (fun a ha => (n1.fr a ha).2.1) (fun a ha => (sr.fr a ha).1) sr.ext sr.rows⟩
    | false =>
      simp only [put, Bool.false_eq_true, if_false, Option.some.injEq] at hy
      subst hy
      have f := addF_nw n1
      refine ⟨addF Hf' H' L1, _, f, key [] _ f ⟨RepO.frozen _ f o v L1 (fun a ha => addF_in ha) a1, rfl⟩ (fun _ h => nomatch h) List.nodup_nil (fun _ h => nomatch h) (fun a ha => ?_) ?_ (sr.rows.add a1.nq.1 a1.nq.2 fun a ha => (n1.fr a ha).2.1)⟩
      · rw [addF_out fun hb => dis a hb ha]; exact (sr.fr a ha).1
      · have x2 := sr.ext
        refine ⟨x2.same, x2.fsame.trans f, addF_sub x2.sub, fun a h1 h2 => ?_, fun h => (x2.rows h).add a1.nq.1 a1.nq.2 fun a ha => (n1.fr a ha).2.1⟩
        by_cases ha : a ∈ L1
        · exact absurd (n1.fr a ha).1 (s0 a h1)
        · rw [addF_out ha] at h2; exact x2.keep a h1 h2
  | vw o => cases hy
  | bw o =>
    simp only [put, Option.some.injEq] at hy
    subst hy
    exact ⟨Hf', _, Same.refl _, key [] Hf' (Same.refl _) ⟨a1.1, rfl⟩ (fun _ h => nomatch h) List.nodup_nil (fun _ h => nomatch h) (fun a ha => (sr.fr a ha).1) sr.ext sr.rows⟩
end DL
namespace DL
open PySem L2
variable {c : Cn} {X : Cx} {a b e : Expr} {es : List Expr} {f g fa fb : FE} {pos : Pos} {fs : Env → Res (List O)} {K : PySem.W.Frag} {H0 H H' Hf Hf' : Hp} {F G : FS} {st : Stmt} {sts : List Stmt} {ft : Env → Res Bool}
def sSet (i : Nat) (own : Bool) (f : FE) : FS := sUse f fun x r => setS r i (put own x)
theorem so_set {t : TE} {i : Nat} {own : Bool} (h : SoE c K t f) : SoS c K (tAsg t (gName i)) (sSet i own f) := fun r s Hf H L sr D q => by
  refine h.use sr q fun x v Hf1 H1 L1 x1 sr1 a1 n1 q1 => ?_
  cases e : put own x with
  | none => rw [e] at q1; exact q1.elim
  | some y =>
    rw [e] at q1
    by_cases hi : i < r.length
    · simp only [setS, if_pos hi] at q1
      obtain ⟨Hf2, L2, f2, sr2⟩ := sr1.store x1 (fun _ => sr.ext.same.ne_none) sr.ok a1 n1 e hi
      exact q1 _ _ _ _ f2 sr2
    · simp only [setS, if_neg hi] at q1; exact q1.elim
theorem ds_set {i : Nat} {x : Str} {pos' : Pos} (own : Bool) (hN : X.N.Nodup) (hi : X.N[i]? = some x) (hx : Loc X.env.scope x) (h : DE c X e f) (hs : swapsWith e (some (.Name x pos')) pos.line X.env = pure false := by rfl)
    (hf : X.fn x = true ∨ X.env.scope.names.lookup x = some .local := by first | exact .inl rfl | exact .inr rfl | assumption) : DS c X (.Assign [.Name x pos'] e pos) (sSet i own f) := by
  obtain ⟨t, p, s⟩ := h.ex
  exact ⟨tAsg t (gName i), ps_set hN hi hx p hs hf, so_set s⟩
def retR : R → Out
  | .nw o => .ret o
  | _ => .bad
def sRet (f : FE) : FS := sUse f fun x _ => retR x
theorem ds_ret (h : DE c X e f) : DS c X (.Return (some e) pos) (sRet f) := by
  obtain ⟨t, p, s⟩ := h.ex
  refine ⟨tRet t, ps_ret p, fun r s' Hf H L sr D q => ?_⟩
  refine s.use sr q fun x v Hf1 H1 L1 x1 sr1 a1 n1 q1 => ?_
  cases x with
  | nw o => exact q1 v Hf1 H1 L1 (Same.refl _) sr1.ext a1 (n1.mono sr.ext.same)
  | vw _ => exact q1.elim
  | bw _ => exact q1.elim
def sRetV (i : Nat) : FS := fun r => match r[i]? with
  | some (.vl true o) => .ret o
  | _ => .bad
theorem ds_retV {i : Nat} (h : PE X e (tVar i)) : DS c X (.Return (some e) pos) (sRetV i) := by
  refine ⟨tRet (tVar i), ps_ret h, fun r s Hf H L sr D q => ?_⟩
  cases er1 : r[i]? with
  | none => simp only [sRetV, er1] at q; exact q.elim
  | some x =>
    cases x with
    | un => simp only [sRetV, er1] at q; exact q.elim
    | me _ _ => simp only [sRetV, er1] at q; exact q.elim
    | tq _ => simp only [sRetV, er1] at q; exact q.elim
    | lt _ _ => simp only [sRetV, er1] at q; exact q.elim
    | fa _ => simp only [sRetV, er1] at q; exact q.elim
    | vl w o =>
      cases w with
      | false => simp only [sRetV, er1] at q; exact q.elim
      | true =>
        simp only [sRetV, er1] at q
        obtain ⟨y, L1, M, L2, h1, h2, h3, _⟩ := sr.env.at er1
        cases y with
        | none => exact h3.elim
        | some v =>
          refine ⟨v, h1, q v Hf H M (Same.refl _) sr.ext h3 ⟨?_, fun a ha => ?_⟩⟩
          · have := sr.nd
            rw [h2] at this
            simp only [List.nodup_append] at this
            exact this.1.2.1
          · have ha' : a ∈ L := by rw [h2]; simp [ha]
            exact ⟨(sr.fr a ha').2, (sr.fr a ha').1, sr.ok a ha'⟩
def sIf (ft : Env → Res Bool) (F G : FS) : FS := fun r => match ft r with
  | .ok b => if b then F r else G r
  | .exc e => .exc e r
  | .bad => .bad
theorem ds_if {t : Expr} {xs ys : List Stmt} (h : DT c X t ft) (h1 : DSs c X xs F) (h2 : DSs c X ys G) : DS c X (.If t xs ys pos) (sIf ft F G) := by
  obtain ⟨tt, p, s⟩ := h.ex
  obtain ⟨u, p1, s1⟩ := h1.ex
  obtain ⟨w, p2, s2⟩ := h2.ex
  refine ⟨tIfS tt u w, ps_if p p1 p2, fun r s' Hf H L sr D q => ?_⟩
  refine s.use (k := fun b r => if b then F r else G r) sr q fun b Hf1 H1 x1 sr1 q1 => ?_
  cases b with
  | true => exact s1 r s' Hf1 H1 L sr1 D q1
  | false => exact s2 r s' Hf1 H1 L sr1 D q1
def sDrop (f : FE) : FS := sUse f fun _ r => .nx r
theorem SR.slot {r : Env} {s : St} {L : List Addr} {i : Nat} {w : Bool} {o : O} (sr : c.SR K r s Hf H L) (e : r[i]? = some (.vl w o)) : ∃ v, s[i]? = some (some v) ∧ RepV K Hf H o v := by
  obtain ⟨z, L1, M, L2, h1, h2', h3, _⟩ := sr.env.at e
  cases z with
  | none => cases w <;> exact h3.elim
  | some v =>
    cases w with
    | true => exact ⟨v, h1, RepO.view o v M h3⟩
    | false => exact ⟨v, h1, RepV.mono (Same.refl _) sr.ext.same o v h3.1⟩
def sAug (i : Nat) (g : O → O → Res R) (f : FE) : FS := fun r => match r[i]? with
  | some (.vl _ o) => sUse f (fun x r => match g o x.a with
    | .ok z => setS r i (put false z)
    | _ => .bad) r
  | _ => .bad
theorem fz_new {d : D} {v : V} (h : Rep K Hf d v) : ResR K H0 Hf H (.nw (.fz d)) v [] := ⟨h, rfl⟩
theorem nw_nil {Hf' H' : Hp} : Nw H Hf' H' [] := ⟨List.nodup_nil, fun _ h => nomatch h⟩
theorem gInt_ok {C : Int → Int → Bool} {h : Int → Int → D} {a b : O} {z : R} (e : gInt C h a b = .ok z) : ∃ i j, a = .fz (.int i) ∧ b = .fz (.int j) ∧ C i j = true ∧ z = .nw (.fz (h i j)) := by
  cases a with
  | ls _ => cases e
  | tp _ => cases e
  | ob _ _ _ => cases e
  | dt _ _ => cases e
  | dk _ _ => cases e
  | gh _ _ _ => cases e
  | fz d => cases d with
    | int i => cases b with
      | ls _ => cases e
      | tp _ => cases e
      | ob _ _ _ => cases e
      | dt _ _ => cases e
      | dk _ _ => cases e
      | gh _ _ _ => cases e
      | fz d => cases d with
        | int j =>
          simp only [gInt] at e
          by_cases hc : C i j = true
          · rw [if_pos hc] at e; cases e; exact ⟨i, j, rfl, rfl, hc, rfl⟩
          · rw [if_neg hc] at e; cases e
        | _ => cases e
    | _ => cases e
theorem SR.write {r : Env} {s : St} {L : List Addr} {i : Nat} {os : List O} (sr : c.SR K r s Hf H L) (e : r[i]? = some (.vl true (.ls os))) :
    ∃ p vs, s[i]? = some (some (.ref p)) ∧ H p = some (.lst vs) ∧ RepVs K Hf H os vs ∧ (∃ M, RepOs K Hf H os vs M) ∧ Hf p = none ∧ p ∈ L ∧
      (allFz os = true → ∀ Hf1 H1 os' vs', Ext Hf H Hf1 H1 → allFz os' = true → RepVs K Hf1 H1 os' vs' → ∃ L', c.SR K (r.set i (.vl true (.ls os'))) s Hf1 (upd H1 p (.lst vs')) L') := by
  obtain ⟨z, L1, M, L2, h1, h2, h3, h4⟩ := sr.env.at e
  cases z with
  | none => exact h3.elim
  | some v =>
    obtain ⟨p, vs, M', e1, e2, e3, e4⟩ := h3
    subst e1 e4
    have hpL : p ∈ L := by rw [h2]; simp
    refine ⟨p, vs, h1, e2, RepOs.view os vs M' e3, ⟨M', e3⟩, (sr.fr p hpL).1, hpL, fun hall Hf1 H1 os' vs' x1 hall' rv' => ?_⟩
    have sr1 := sr.mono x1
    have pn : ∀ a ∈ L1 ++ L2, a ≠ p := fun a ha e => by
      subst e
      have nd := sr.nd
      rw [h2] at nd
      simp only [List.nodup_append, List.mem_append, List.nodup_cons, List.mem_cons] at nd ha
      obtain ⟨⟨_, _, d1⟩, _, d2⟩ := nd
      rcases ha with ha | ha
      · exact d1 a ha a (.inl rfl) rfl
      · exact d2 a (.inr (.inl rfl)) a ha rfl
    have env' := h4 Hf1 (upd H1 p (.lst vs')) (.vl true (.ls os')) (some (.ref p)) [p] x1.fsame (Tst.su x1.same e2 fun _ z => nomatch z) (fun a ha u q => by rw [upd_ne (pn a ha)]; exact sr.env.nx.kp x1.same a (by rw [h2]; simp only [List.mem_append] at ha ⊢; rcases ha with ha | ha; exact .inl (.inl ha); exact .inr ha) u q)
      ⟨p, vs', [], rfl, upd_same, repVs_O hall' rv', rfl⟩
    have es : s.set i (some (V.ref p)) = s := by
      obtain ⟨hl, hg⟩ := List.getElem?_eq_some_iff.mp h1
      rw [← hg]; exact List.set_getElem_self hl
    rw [es] at env'
    have hpf := (sr1.fr p hpL).1
    have hp0 := (sr.fr p hpL).2
    have sub' : ∀ a ∈ L1 ++ [p] ++ L2, a ∈ L := fun a ha => by
      rw [h2]; simp only [List.mem_append, List.mem_cons, List.mem_singleton, List.not_mem_nil, or_false] at ha ⊢
      rcases ha with (ha | ha) | ha
      · exact .inl (.inl ha)
      · exact .inl (.inr (.inl ha))
      · exact .inr ha
    refine ⟨L1 ++ [p] ++ L2, ⟨?_, ?_, ?_, ?_, fun h => (sr1.ext.rows h).set (x1.same.lst e2) (Hk.ne rfl)⟩, env', ?_, fun a ha => ⟨(sr1.fr a (sub' a ha)).1, (sr1.fr a (sub' a ha)).2⟩, fun a ha => ?_, sr1.rows.set (x1.same.lst e2) (Hk.ne rfl)⟩
    · exact fun a u q => by rw [upd_ne (ne_of_none q hp0)]; exact sr1.ext.same a u q
    · exact sr1.ext.fsame
    · exact fun a u q => by rw [upd_ne (ne_of_none q hpf)]; exact sr1.ext.sub a u q
    · exact sr1.ext.keep
    · have nd := sr.nd
      rw [h2] at nd
      simp only [List.nodup_append, List.mem_append, List.nodup_cons, List.mem_cons] at nd
      obtain ⟨⟨n1, n2, d1⟩, n3, d2⟩ := nd
      simp only [List.nodup_append, List.mem_append, List.nodup_cons, List.mem_cons, List.mem_singleton, List.not_mem_nil, or_false]
      refine ⟨⟨n1, ⟨by simp, List.nodup_nil⟩, fun a ha b hb e => ?_⟩, n3, fun a ha b hb e => ?_⟩
      · subst hb; exact d1 a ha b (.inl rfl) e
      · rcases ha with ha | ha
        · exact d2 a (.inl ha) b hb e
        · exact d2 a (.inr (.inl ha)) b hb e
    · by_cases hp : a = p
      · subst hp; rw [upd_same]; simp
      · rw [upd_ne hp]; exact sr1.ok a (sub' a ha)
theorem RepVs.append : ∀ {os ps : List O} {vs ws : List V}, RepVs K Hf H os vs → RepVs K Hf H ps ws → RepVs K Hf H (os ++ ps) (vs ++ ws)
  | [], _, _, _, h, h2 => by have h' : _ = _ := h; subst h'; exact h2
  | o :: os, _, _, _, h, h2 => by
    obtain ⟨v, r, e, h3, h4⟩ := h
    subst e
    exact ⟨v, _, rfl, h3, RepVs.append h4 h2⟩
theorem RepVs.set : ∀ {os : List O} {vs : List V} {i : Nat} {o : O} {v : V}, RepVs K Hf H os vs → RepV K Hf H o v → RepVs K Hf H (os.set i o) (vs.set i v)
  | [], _, _, _, _, h, _ => by have h' : _ = _ := h; subst h'; rfl
  | x :: os, _, 0, _, _, h, h2 => by
    obtain ⟨v, r, e, h3, h4⟩ := h
    subst e
    exact ⟨_, r, rfl, h2, h4⟩
  | x :: os, _, i + 1, _, _, h, h2 => by
    obtain ⟨v, r, e, h3, h4⟩ := h
    subst e
    exact ⟨v, _, rfl, h3, RepVs.set h4 h2⟩
theorem RepVs.dropLast : ∀ {os : List O} {vs : List V}, RepVs K Hf H os vs → RepVs K Hf H os.dropLast vs.dropLast
  | [], _, h => by have h' : _ = _ := h; subst h'; rfl
  | [x], _, h => by
    obtain ⟨v, r, e, h3, h4⟩ := h
    have h' : r = [] := h4
    subst h'
    subst e
    rfl
  | x :: y :: os, _, h => by
    obtain ⟨v, r, e, h3, v2, r2, e2, h5, h6⟩ := h
    subst e2 e
    exact ⟨v, _, rfl, h3, RepVs.dropLast (os := y :: os) ⟨v2, r2, rfl, h5, h6⟩⟩
theorem allFz_append : ∀ {os ps : List O}, allFz (os ++ ps) = (allFz os && allFz ps)
  | [], _ => by simp [allFz]
  | .fz _ :: os, _ => by simp [allFz, allFz_append]
  | .ls _ :: os, _ => by simp [allFz]
  | .tp _ :: os, _ => by simp [allFz]
  | .ob _ _ _ :: os, _ => by simp [allFz]
  | .dt _ _ :: os, _ => by simp [allFz]
  | .dk _ _ :: os, _ => by simp [allFz]
  | .gh _ _ _ :: os, _ => by simp [allFz]
def onOwn (i : Nat) (r : Env) (k : List O → Out) : Out := match r[i]? with
  | some (.vl true (.ls os)) => if allFz os then k os else .bad
  | _ => .bad
theorem onOwn_of {i : Nat} {r : Env} {k : List O → Out} {D : Ends} {G : Hp} (q : PostS c K G D (onOwn i r k)) : ∃ os, r[i]? = some (.vl true (.ls os)) ∧ allFz os = true ∧ PostS c K G D (k os) := by
  unfold onOwn at q
  split at q
  · rename_i os e
    by_cases h : allFz os = true
    · rw [if_pos h] at q; exact ⟨os, e, h, q⟩
    · rw [if_neg h] at q; exact q.elim
  · exact q.elim
def sApp (i : Nat) (f : FE) : FS := fun r => onOwn i r fun os => sUse f (fun x r => match x.a with
    | .fz d => if os.length ≤ 100000 then .nx (r.set i (.vl true (.ls (os ++ [.fz d])))) else .bad
    | _ => .bad) r
theorem ds_app {i : Nat} {o : Expr} {apos : Pos} {cpos : Pos} (hv : PE X o (tVar i)) (h : DE c X e f)
    (hbase : attributeBase o "append" X.env (eval o X.env) = eval o X.env := by rfl)
    (hfew : ((backTo cpos (starEach [e] X.env)).all (fun x => !x.1) && (backToKw cpos (keywordEach [] X.env)).all (fun x => x.1.isSome)
      && decide (([e] : List Expr).length + ([] : List Keyword).length + (if ([] : List Keyword).isEmpty then 0 else 1) < 30)) = true := by rfl)
    (hline : (apos.endLine == cpos.line) = true := by rfl) (hs : starEach [e] X.env = (false, eval e X.env) :: starEach [] X.env := by rfl) (hplain : (backTo cpos (starEach [] X.env)).any (·.1) = false := by rfl)
    (hsw : swapsWith (.Call (.Attribute o "append" apos) [e] [] cpos) none pos.line X.env = pure false := by rfl) : DS c X (.Expr (.Call (.Attribute o "append" apos) [e] [] cpos) pos) (sApp i f) := by
  obtain ⟨t, p, s⟩ := h.ex
  refine ⟨_, ps_expr (pe_bm PySem.F.plainAttrs_list PySem.F.slot_list_append PySem.F.type_list_append mt_append hv (pa_cons p pa_nil hs) hbase hfew hline hs hplain) hsw, fun r s' Hf H L sr D q => ?_⟩
  obtain ⟨os, eo, hall, q1⟩ := onOwn_of q
  obtain ⟨p, vs, h1, h2, h3, _, h4, h5, h6⟩ := sr.write eo
  refine ⟨_, h1, .inl ⟨rfl, vs, SqL.of h2⟩, ?_⟩
  refine s.use sr q1 fun x u Hf1 H1 L1 x1 sr1 a1 n1 q2 => ?_
  have a2 := (a1.argR n1).a sr1.same0
  have x2 := x1.add n1 a1.nq
  cases ex : x.a with
  | ls _ => simp only [ex] at q2; exact q2.elim
  | tp _ => simp only [ex] at q2; exact q2.elim
  | ob _ _ _ => simp only [ex] at q2; exact q2.elim
  | dt _ _ => simp only [ex] at q2; exact q2.elim
  | dk _ _ => simp only [ex] at q2; exact q2.elim
  | gh _ _ _ => simp only [ex] at q2; exact q2.elim
  | fz d =>
    simp only [ex] at q2
    rw [ex] at a2
    by_cases hl : os.length ≤ 100000
    · rw [if_pos hl] at q2
      have lv : vs.length = os.length := RepVs.length h3
      refine ⟨p, vs, u, rfl, rfl, x1.same.lst h2, Nat.lt_of_le_of_lt (show vs.length ≤ 100000 by omega) (by decide), ?_⟩
      obtain ⟨L', sr2⟩ := h6 hall (addF Hf1 H1 L1) H1 (os ++ [.fz d]) (vs ++ [u]) x2 (by rw [allFz_append, hall]; rfl) ((RepVs.mono x2.fsame x2.same os vs h3).append ⟨u, [], rfl, a2, rfl⟩)
      exact q2 _ _ _ _ (addF_nw n1) sr2
    · rw [if_neg hl] at q2; exact q2.elim
end DL
namespace DL
open PySem L2
variable {c : Cn} {X : Cx} {a b e : Expr} {es : List Expr} {f g fa fb : FE} {pos : Pos} {fs : Env → Res (List O)} {K : PySem.W.Frag} {H0 H H' Hf Hf' : Hp} {F G : FS} {st : Stmt} {sts : List Stmt} {ft : Env → Res Bool}
abbrev FG := R → Env → Option Env
def SoG (c : Cn) (K : PySem.W.Frag) (t : TG) (fg : FG) (vs : List Nat) : Prop := ∀ x v r r1 s Hf H L, c.SR K r s Hf H L → ArgR K c.H0 Hf H x v → fg x r = some r1 → ∀ Q : St → Hp → Prop,
  (∀ s1 L1, c.SR K r1 s1 Hf H L1 → wipe s1 vs = wipe s vs → Q s1 H) → t v s H Q
def gN (i : Nat) : FG := fun x r => match (match x with | .nw o => some (S.vl true (.fz (er o))) | .vw _ => none | .bw o => some (S.vl false o)) with
  | some y => if i < r.length then some (r.set i y) else none
  | none => none
theorem SR.storeA {r : Env} {s : St} {L : List Addr} {x : R} {v : V} {i : Nat} {r1 : Env} (sr : c.SR K r s Hf H L) (a1 : ArgR K c.H0 Hf H x v) (e : gN i x r = some r1) : ∃ L1, c.SR K r1 (s.set i (some v)) Hf H L1 := by
  have go : ∀ (x : R), ResR K c.H0 Hf H x v [] → ∀ y, put false x = some y → i < r.length → ∃ Hf2 L2, Same Hf Hf2 ∧ c.SR K (r.set i y) (s.set i (some v)) Hf2 H L2 := fun x a y hy hi =>
    sr.store (own := false) (Ext.refl sr.sub) (fun _ => sr.ext.same.ne_none) sr.ok a nw_nil hy hi
  cases x with
  | vw o => cases e
  | nw o =>
    simp only [gN] at e
    by_cases hi : i < r.length
    · rw [if_pos hi] at e
      cases e
      obtain ⟨z, hz⟩ : ∃ z, r[i]? = some z := ⟨r[i], by simp [hi]⟩
      obtain ⟨w, A, M, B, h1, h2, h3, h4⟩ := sr.env.at hz
      have sub2 : ∀ a ∈ A ++ [] ++ B, a ∈ L := fun a ha => by
        rw [h2]; simp only [List.mem_append, List.not_mem_nil, or_false] at ha ⊢
        rcases ha with ha | ha
        · exact .inl (.inl ha)
        · exact .inr ha
      refine ⟨A ++ [] ++ B, sr.ext, h4 Hf H _ _ [] (Same.refl _) Tst.rf (fun _ _ _ e => e) ⟨a1, rfl⟩, ?_, fun a ha => sr.fr a (sub2 a ha), fun a ha => sr.ok a (sub2 a ha), sr.rows⟩
      have nd := sr.nd
      rw [h2] at nd
      simp only [List.nodup_append, List.mem_append] at nd
      simp only [List.append_nil, List.nodup_append]
      obtain ⟨⟨n1, n2, d1⟩, n3, d2⟩ := nd
      exact ⟨n1, n3, fun a ha b hb => d2 a (.inl ha) b hb⟩
    · rw [if_neg hi] at e; cases e
  | bw o =>
    simp only [gN] at e
    by_cases hi : i < r.length
    · rw [if_pos hi] at e
      cases e
      obtain ⟨z, hz⟩ : ∃ z, r[i]? = some z := ⟨r[i], by simp [hi]⟩
      obtain ⟨w, A, M, B, h1, h2, h3, h4⟩ := sr.env.at hz
      have sub2 : ∀ a ∈ A ++ [] ++ B, a ∈ L := fun a ha => by
        rw [h2]; simp only [List.mem_append, List.not_mem_nil, or_false] at ha ⊢
        rcases ha with ha | ha
        · exact .inl (.inl ha)
        · exact .inr ha
      refine ⟨A ++ [] ++ B, sr.ext, h4 Hf H _ _ [] (Same.refl _) Tst.rf (fun _ _ _ e => e) ⟨a1, rfl⟩, ?_, fun a ha => sr.fr a (sub2 a ha), fun a ha => sr.ok a (sub2 a ha), sr.rows⟩
      have nd := sr.nd
      rw [h2] at nd
      simp only [List.nodup_append, List.mem_append] at nd
      simp only [List.append_nil, List.nodup_append]
      obtain ⟨⟨n1, n2, d1⟩, n3, d2⟩ := nd
      exact ⟨n1, n3, fun a ha b hb => d2 a (.inl ha) b hb⟩
    · rw [if_neg hi] at e; cases e
theorem wipe_set {s : St} {i : Nat} {v : Option V} : ∀ {vs : List Nat}, i ∈ vs → wipe (s.set i v) vs = wipe s vs
  | [], h => by simp at h
  | j :: vs, h => by
    show (wipe (s.set i v) vs).set j none = (wipe s vs).set j none
    by_cases hj : i ∈ vs
    · rw [wipe_set hj]
    · have e : i = j := by simpa [hj] using h
      subst e
      have key : ∀ {vs : List Nat} {s : St}, i ∉ vs → wipe (s.set i v) vs = (wipe s vs).set i v := by
        intro vs
        induction vs with
        | nil => intro s _; rfl
        | cons k vs ih =>
          intro s hk
          simp only [List.mem_cons, not_or] at hk
          show (wipe (s.set i v) vs).set k none = ((wipe s vs).set k none).set i v
          rw [ih hk.2, List.set_comm _ _ hk.1]
      rw [key hj, List.set_set]
theorem so_gN {i : Nat} {vs : List Nat} (h : i ∈ vs) : SoG c K (gName i) (gN i) vs := fun x v r r1 s Hf H L sr a1 e Q q => by
  obtain ⟨L1, sr1⟩ := sr.storeA a1 e
  exact q _ L1 sr1 (wipe_set h)
structure DG (c : Cn) (X : Cx) (tg : Expr) (fg : FG) (vs : List Nat) : Prop where
  ex : ∃ t, PG X tg t ∧ SoG c X.K t fg vs
theorem dg_name {i : Nat} {x : Str} {vs : List Nat} (hN : X.N.Nodup) (hi : X.N[i]? = some x) (hx : Loc X.env.scope x) (hv : i ∈ vs := by simp) (hf : X.fn x = true ∨ X.env.scope.names.lookup x = some .local := by first | exact .inl rfl | exact .inr rfl | assumption) : DG c X (.Name x pos) (gN i) vs :=
  ⟨gName i, pg_name hN hi hx hf, so_gN hv⟩
def gL : List FG → List D → Env → Option Env
  | [], [], r => some r
  | g :: gs, d :: ds, r => (g (.nw (.fz d)) r).bind fun r1 => gL gs ds r1
  | _, _, _ => none
def SoGs (c : Cn) (K : PySem.W.Frag) (t : TGs) (gs : List FG) (vs : List Nat) : Prop := ∀ ds ws r r1 s Hf H L, c.SR K r s Hf H L → Reps K Hf ds ws → gL gs ds r = some r1 → ∀ Q : St → Hp → Prop,
  (∀ s1 L1, c.SR K r1 s1 Hf H L1 → wipe s1 vs = wipe s vs → Q s1 H) → t ws s H Q
structure DGs (c : Cn) (X : Cx) (ts : List Expr) (gs : List FG) (vs : List Nat) : Prop where
  ex : ∃ t, PGs X ts t ∧ SoGs c X.K t gs vs
theorem dgs_nil {vs : List Nat} : DGs c X [] [] vs := ⟨gNil, pgs_nil, fun ds ws r r1 s Hf H L sr a e Q q => by
  cases ds with
  | nil =>
    have e' : r = r1 := Option.some.inj e
    subst e'
    exact ⟨a, q s L sr rfl⟩
  | cons d ds => cases e⟩
theorem dgs_cons {gs : List FG} {fg : FG} {vs : List Nat} (h1 : DG c X e fg vs) (h2 : DGs c X es gs vs) (ha : (assignEach (e :: es) X.env).map (·.2) = assign e X.env :: (assignEach es X.env).map (·.2) := by rfl) : DGs c X (e :: es) (fg :: gs) vs := by
  obtain ⟨t, p, s⟩ := h1.ex
  obtain ⟨u, p2, s2⟩ := h2.ex
  refine ⟨gCons t u, pgs_cons p p2 ha, fun ds ws r r1 s' Hf H L sr a e' Q q => ?_⟩
  cases ds with
  | nil => cases e'
  | cons d ds =>
    obtain ⟨v, w, e1, h1, h2⟩ := a
    cases e2 : fg (.nw (.fz d)) r with
    | none => simp [gL, e2] at e'
    | some r2 =>
      simp only [gL, e2, Option.bind_some] at e'
      refine ⟨v, w, e1, s (.nw (.fz d)) v r r2 s' Hf H L sr h1 e2 _ fun s1 L1 sr1 w1 => ?_⟩
      exact s2 ds w r2 r1 s1 Hf H L1 sr1 h2 e' Q fun s3 L3 sr3 w3 => q s3 L3 sr3 (w3.trans w1)
def gT (gs : List FG) : FG := fun x r => match x.a with
  | .fz (.tup ds) => gL gs ds r
  | _ => none
theorem gL_length : ∀ {gs : List FG} {ds : List D} {r r1 : Env}, gL gs ds r = some r1 → ds.length = gs.length
  | [], [], _, _, _ => rfl
  | [], _ :: _, _, _, e => by cases e
  | _ :: _, [], _, _, e => by cases e
  | g :: gs, d :: ds, r, r1, e => by
    cases e2 : g (.nw (.fz d)) r with
    | none => simp [gL, e2] at e
    | some r2 =>
      simp only [gL, e2, Option.bind_some] at e
      simp [gL_length e]
theorem dg_tup {gs : List FG} {vs : List Nat} {kk n : Nat} (hc : X.calm = true) (h : DGs c X es gs vs) (hg : gs.length = n := by rfl)
    (hn : (assignEach es X.env).length = n := by rfl) (hst : (assignEach es X.env).findIdx? (·.1) = none := by rfl) : DG c X (.Tuple es kk pos) (gT gs) vs := by
  obtain ⟨t, p, s⟩ := h.ex
  refine ⟨_, pg_tup hc p hn hst, fun x v r r1 s' Hf H L sr a1 e Q q => ?_⟩
  have a2 := a1.a sr.ext.same
  cases ex : x.a with
  | ls _ => simp [gT, ex] at e
  | tp _ => simp [gT, ex] at e
  | ob _ _ _ => simp [gT, ex] at e
  | dt _ _ => simp [gT, ex] at e
  | dk _ _ => simp [gT, ex] at e
  | gh _ _ _ => simp [gT, ex] at e
  | fz d =>
    cases d with
    | tup ds =>
      simp only [gT, ex] at e
      rw [ex] at a2
      obtain ⟨p', ws, e1, h1, h2⟩ := a2
      exact ⟨p', ws, e1, SqT.of (sr.sub _ _ h1), by rw [Reps.length h2, gL_length e, hg], s ds ws r r1 s' Hf H L sr h2 e Q q⟩
    | _ => simp [gT, ex] at e
def R.z : R → R
  | .nw o => .nw (.fz (er o))
  | .vw o => .vw o
  | .bw o => .bw o
def sAsgT (fg : FG) (f : FE) : FS := sUse f fun x r => match fg x.z r with
  | some r1 => .nx r1
  | none => .bad
theorem ds_asgT {tg : Expr} {fg : FG} {vs : List Nat} (hg : DG c X tg fg vs) (h : DE c X e f) (hs : swapsWithSole [tg] e pos.line X.env = pure false := by rfl) (hw : swappedStores [tg] e X.env = pure none := by rfl)
    (h1 : (assignEach [tg] X.env).map (·.2) = [assign tg X.env] := by rfl) : DS c X (.Assign [tg] e pos) (sAsgT fg f) := by
  obtain ⟨t, p, s⟩ := h.ex
  obtain ⟨u, p2, s2⟩ := hg.ex
  refine ⟨tAsg t u, ps_asg p p2 hs hw h1, fun r s' Hf H L sr D q => ?_⟩
  refine s.use sr q fun x v Hf1 H1 L1 x1 sr1 a1 n1 q1 => ?_
  have x2 := x1.add n1 a1.nq
  have sr2 := sr.mono x2
  have a2 := a1.argR n1
  have a3 : ArgR X.K c.H0 (addF Hf1 H1 L1) H1 x.z v := by
    cases x with
    | nw o => exact a2
    | vw o => exact a2
    | bw o => exact a2
  cases eg : fg x.z r with
  | none => rw [eg] at q1; exact q1.elim
  | some r1 =>
    rw [eg] at q1
    exact s2 _ v r r1 s' _ H1 L sr2 a3 eg _ fun s3 L3 sr3 _ => q1 _ _ _ _ (addF_nw n1) sr3
def Wk (K : PySem.W.Frag) (H0 Hf : Hp) (its : List R) (J : It) : Prop := ∀ Hf2 H2, Same Hf Hf2 → Same Hf2 H2 → Sm H0 H2 →
  (∀ i it, its[i]? = some it → J.go i H2 ∧ ∀ x H3, J.yld i H2 x H3 → ∃ Hf3, Ext Hf2 H2 Hf3 H3 ∧ ArgR K H0 Hf3 H3 it x) ∧ J.stop its.length H2
def PostI (c : Cn) (K : PySem.W.Frag) (s : St) (Hf H : Hp) (Q : It → Hp → Prop) : Res (List R) → Prop
  | .ok its => ∀ J Hf' H', Ext Hf H Hf' H' → Wk K c.H0 Hf' its J → Q J H'
  | .exc e => PostX c K s Hf H e
  | .bad => False
def SoI (c : Cn) (K : PySem.W.Frag) (t : TI) (fi : Env → Res (List R)) : Prop := ∀ r s Hf H L, c.SR K r s Hf H L → ∀ Q, PostI c K s Hf H Q (fi r) → t s H Q
structure DI (c : Cn) (X : Cx) (tg e : Expr) (fi : Env → Res (List R)) : Prop where
  ex : ∃ t, PI X tg e t ∧ SoI c X.K t fi
theorem pstI {s : St} {Q : It → Hp → Prop} : Pst c K s (fun Hf H z => PostI c K s Hf H Q z) where
  bad := fun _ _ h => h
  exc := fun _ _ _ h => h
  mono := fun Hf H Hf' H' z x h => by
    cases z with
    | ok r => exact fun v Hf2 H2 y q => h v Hf2 H2 (x.trans y) q
    | exc e => exact PostX.mono x h
    | bad => exact h
def itsL : R → Res (List R)
  | .nw o => (match items (.fz (er o)) with | some os => .ok (os.map .nw) | none => .bad)
  | .bw o => (match items o with | some os => .ok (os.map (see false)) | none => .bad)
  | .vw _ => .bad
theorem see_arg {H0 Hf H : Hp} {o : O} {v : V} (h : RepV K Hf H0 o v) : ArgR K H0 Hf H (see false o) v := by
  cases o with
  | fz d => exact h
  | ls os => exact h
  | tp os => exact h
  | ob _ _ _ => exact h
  | dt _ _ => exact h
  | dk _ _ => exact h
  | gh _ _ _ => exact h
theorem items_fz {d : D} {os : List O} (e : items (.fz d) = some os) : ∀ o ∈ os, ∃ d', o = .fz d' := by
  cases d with
  | lst ds =>
    have e' : ds.map O.fz = os := Option.some.inj e
    subst e'
    intro o ho
    obtain ⟨d, _, rfl⟩ := List.mem_map.mp ho
    exact ⟨d, rfl⟩
  | scr ns =>
    have e' : (ns.map fun n => O.fz (.int n)) = os := Option.some.inj e
    subst e'
    intro o ho
    obtain ⟨d, _, rfl⟩ := List.mem_map.mp ho
    exact ⟨_, rfl⟩
  | _ => cases e
theorem itsL_ok {x : R} {v : V} {its : List R} (s : Same Hf H) (s0 : Sm H0 H) (h : ArgR K H0 Hf H x v) (e : itsL x = .ok its) : ∃ (a : Addr) (vs : List V), v = .ref a ∧ vs.length = its.length ∧ SqL K H a vs ∧
    ∀ Hf2 H2, Same Hf Hf2 → Same Hf2 H2 → Sm H0 H2 → SqL K H2 a vs ∧ ∀ (i : Nat) (it : R), its[i]? = some it → ∃ w : V, vs[i]? = some w ∧ ArgR K H0 Hf2 H2 it w := by
  cases x with
  | vw o => cases e
  | nw o =>
    simp only [itsL] at e
    cases ei : items (.fz (er o)) with
    | none => rw [ei] at e; cases e
    | some os =>
      rw [ei] at e
      cases e
      have hfz := items_fz ei
      have h' : RepV K Hf Hf (.fz (er o)) v := h
      obtain ⟨a, vs, e1, h1, h2⟩ := items_rep (Same.refl Hf) h' ei
      refine ⟨a, vs, e1, by rw [RepVs.length h2]; simp, s.seq h1, fun Hf2 H2 f1 f2 f3 => ⟨(f1.trans f2).seq h1, fun i it hi => ?_⟩⟩
      rw [List.getElem?_map] at hi
      cases eo : os[i]? with
      | none => rw [eo] at hi; cases hi
      | some o' =>
        rw [eo] at hi
        cases hi
        obtain ⟨w, hw, rw'⟩ := RepVs.get h2 eo
        obtain ⟨d', rfl⟩ := hfz o' (List.mem_of_getElem? eo)
        exact ⟨w, hw, Rep.mono f1 _ _ rw'⟩
  | bw o =>
    simp only [itsL] at e
    cases ei : items o with
    | none => rw [ei] at e; cases e
    | some os =>
      rw [ei] at e
      cases e
      cases o with
      | tp _ => cases ei
      | ob _ _ _ => cases ei
      | dt _ _ => cases ei
      | dk _ _ => cases ei
      | gh _ _ _ => cases ei
      | ls os' =>
        have e' : os' = os := Option.some.inj ei
        subst e'
        obtain ⟨a, vs, e1, h1, h2⟩ := h
        refine ⟨a, vs, e1, by rw [RepVs.length h2]; simp, SqL.of (s0.lst h1), fun Hf2 H2 f1 f2 f3 => ⟨SqL.of (f3.lst h1), fun i it hi => ?_⟩⟩
        rw [List.getElem?_map] at hi
        cases eo : os'[i]? with
        | none => rw [eo] at hi; cases hi
        | some o' =>
          rw [eo] at hi
          cases hi
          obtain ⟨w, hw, rw'⟩ := RepVs.get h2 eo
          exact ⟨w, hw, see_arg (RepV.mono f1 (Sm.refl _) _ _ rw')⟩
      | fz d =>
        have hfz := items_fz ei
        have h' : RepV K Hf Hf (.fz d) v := h
        obtain ⟨a, vs, e1, h1, h2⟩ := items_rep (Same.refl Hf) h' ei
        refine ⟨a, vs, e1, by rw [RepVs.length h2]; simp, s.seq h1, fun Hf2 H2 f1 f2 f3 => ⟨(f1.trans f2).seq h1, fun i it hi => ?_⟩⟩
        rw [List.getElem?_map] at hi
        cases eo : os[i]? with
        | none => rw [eo] at hi; cases hi
        | some o' =>
          rw [eo] at hi
          cases hi
          obtain ⟨w, hw, rw'⟩ := RepVs.get h2 eo
          obtain ⟨d', rfl⟩ := hfz o' (List.mem_of_getElem? eo)
          exact ⟨w, hw, Rep.mono f1 _ _ rw'⟩
def iLst (f : FE) : Env → Res (List R) := fun r => (f r).bind itsL
theorem di_list {tg : Expr} (h : DE c X e f) : DI c X tg e (iLst f) := by
  obtain ⟨t, p, s⟩ := h.ex
  refine ⟨iList X.K t, pi_list p, fun r s' Hf H L sr Q q => ?_⟩
  refine s.run sr pstI q fun x v Hf1 H1 x1 sr1 a1 q1 => ?_
  cases e1 : itsL x with
  | bad => rw [e1] at q1; exact q1.elim
  | exc e' => exfalso; cases x <;> simp only [itsL] at e1 <;> (try split at e1) <;> cases e1
  | ok its =>
    rw [e1] at q1
    obtain ⟨a, vs, e2, hl, h1, h2⟩ := itsL_ok sr1.sub sr1.same0 a1 e1
    refine ⟨a, e2, ⟨vs, h1⟩, q1 (Itl X.K a) Hf1 H1 (Ext.refl sr1.sub) fun Hf2 H2 f1 f2 f3 => ?_⟩
    obtain ⟨g1, g2⟩ := h2 Hf2 H2 f1 f2 f3
    refine ⟨fun i it hi => ?_, ⟨vs, g1, by omega⟩⟩
    obtain ⟨w, hw, aw⟩ := g2 i it hi
    refine ⟨⟨vs, w, g1, hw⟩, fun x H3 ⟨eH, hx⟩ => ?_⟩
    subst eH
    have ew := hx vs g1
    rw [hw] at ew
    cases ew
    exact ⟨Hf2, Ext.refl f2, aw⟩
def intR (n : Int) : R := .nw (.fz (.int n))
def rngL (lo : Int) (n : Nat) : List R := (List.range n).map fun (k : Nat) => intR (lo + (k : Nat))
def small62 (i : Int) : Bool := decide (-(2 ^ 62) ≤ i ∧ i < 2 ^ 62)
def rng1 : List O → Res (List R)
  | [.fz (.int j)] => if small62 j then .ok (rngL 0 j.toNat) else .bad
  | _ => .bad
def rng2 : List O → Res (List R)
  | [.fz (.int i), .fz (.int j)] => if small62 i && small62 j then .ok (rngL i (j - i).toNat) else .bad
  | _ => .bad
def iRng (g : List O → Res (List R)) (fs : Env → Res (List O)) : Env → Res (List R) := fun r => (fs r).bind g
theorem wk_rng {lo : Int} {n : Nat} : Wk K H0 Hf (rngL lo n) (Itr lo n) := fun Hf2 H2 f1 f2 f3 => by
  refine ⟨fun i it hi => ?_, by show n ≤ (rngL lo n).length; simp [rngL]⟩
  have hlt : i < n := by
    have := (List.getElem?_eq_some_iff.mp hi).1
    simpa [rngL] using this
  refine ⟨hlt, fun x H3 ⟨eH, ex⟩ => ?_⟩
  subst eH ex
  have e : (rngL lo n)[i]? = some (intR (lo + (i : Nat))) := by simp [rngL, hlt]
  rw [e] at hi
  cases hi
  exact ⟨Hf2, Ext.refl f2, rfl⟩
theorem ints1 {os : List O} {vs : List V} {β : Type} {k : Int → Res β} {g : List O → Res β} (hg : ∀ os, g os = match os with | [.fz (.int j)] => k j | _ => .bad) (h : RepVs K Hf H os vs) : g os = .bad ∨ ∃ j, g os = k j ∧ vs = [.int j] := by
  rw [hg]
  split
  · rename_i j
    obtain ⟨v, r, e1, h1, h2⟩ := h
    have h2' : r = [] := h2
    have h1' : v = .int j := h1
    subst h2' h1' e1
    exact .inr ⟨j, rfl, rfl⟩
  · exact .inl rfl
theorem ints2 {os : List O} {vs : List V} {β : Type} {k : Int → Int → Res β} {g : List O → Res β} (hg : ∀ os, g os = match os with | [.fz (.int i), .fz (.int j)] => k i j | _ => .bad) (h : RepVs K Hf H os vs) : g os = .bad ∨ ∃ i j, g os = k i j ∧ vs = [.int i, .int j] := by
  rw [hg]
  split
  · rename_i i j
    obtain ⟨v, r, e1, h1, v2, r2, e2, h2, h3⟩ := h
    have h3' : r2 = [] := h3
    have h1' : v = .int i := h1
    have h2' : v2 = .int j := h2
    subst h3' h1' h2' e2 e1
    exact .inr ⟨i, j, rfl, rfl⟩
  · exact .inl rfl
theorem di_rng1 {tg e : Expr} {p pos : Pos} (hg : Gl X "range") (hm : X.mg "range" = none) (h : DA c X [e] fs) (hs : starEach [e] X.env = [(false, eval e X.env)] := by rfl) : DI c X tg (.Call (.Name "range" p) [e] [] pos) (iRng rng1 fs) := by
  obtain ⟨t, pa, s⟩ := h.ex
  refine ⟨iRng1 t, pi_range1 hg hm pa hs, fun r s' Hf H L sr Q q => ?_⟩
  refine s.run sr pstI q fun os vs Hf1 H1 x1 sr1 a1 q1 => ?_
  rcases ints1 (k := fun j => if small62 j then .ok (rngL 0 j.toNat) else .bad) (g := rng1) (fun os => by unfold rng1; rfl) a1 with e0 | ⟨j, e0, ev⟩
  · rw [e0] at q1; exact q1.elim
  · rw [e0] at q1
    by_cases hj : small62 j = true
    · rw [if_pos hj] at q1
      have hj' := of_decide_eq_true hj
      exact ⟨j, ev, hj'.1, hj'.2, q1 _ Hf1 H1 (Ext.refl sr1.sub) wk_rng⟩
    · rw [if_neg hj] at q1; exact q1.elim
theorem di_rng2 {tg e e2 : Expr} {p pos : Pos} (hg : Gl X "range") (hm : X.mg "range" = none) (h : DA c X [e, e2] fs) (hs : starEach [e, e2] X.env = [(false, eval e X.env), (false, eval e2 X.env)] := by rfl) (hs2 : starEach [e2] X.env = [(false, eval e2 X.env)] := by rfl) :
    DI c X tg (.Call (.Name "range" p) [e, e2] [] pos) (iRng rng2 fs) := by
  obtain ⟨t, pa, s⟩ := h.ex
  refine ⟨iRng2 t, pi_range2 hg hm pa hs hs2, fun r s' Hf H L sr Q q => ?_⟩
  refine s.run sr pstI q fun os vs Hf1 H1 x1 sr1 a1 q1 => ?_
  rcases ints2 (k := fun i j => if small62 i && small62 j then .ok (rngL i (j - i).toNat) else .bad) (g := rng2) (fun os => by unfold rng2; rfl) a1 with e0 | ⟨i, j, e0, ev⟩
  · rw [e0] at q1; exact q1.elim
  · rw [e0] at q1
    by_cases hj : (small62 i && small62 j) = true
    · rw [if_pos hj] at q1
      rw [Bool.and_eq_true] at hj
      have hi' := of_decide_eq_true hj.1
      have hj' := of_decide_eq_true hj.2
      exact ⟨i, j, ev, ⟨hi'.1, hi'.2, hj'.1, hj'.2⟩, q1 _ Hf1 H1 (Ext.refl sr1.sub) wk_rng⟩
    · rw [if_neg hj] at q1; exact q1.elim
def forL (fg : FG) (F : FS) : List R → Env → Out
  | [], r => .nx r
  | x :: xs, r => match fg x r with
    | none => .bad
    | some r1 => (match F r1 with
      | .nx r' => forL fg F xs r'
      | .ct r' => forL fg F xs r'
      | .bk r' => .nx r'
      | o => o)
def sFor (fi : Env → Res (List R)) (fg : FG) (F : FS) : FS := fun r => match fi r with
  | .ok its => forL fg F its r
  | .exc e => .exc e r
  | .bad => .bad
theorem so_for {wi : TI} {g : TG} {tb : TS} {fi : Env → Res (List R)} {fg : FG} {vs : List Nat} (hi : SoI c K wi fi) (hg : SoG c K g fg vs) (hb : SoS c K tb F) : SoS c K (tFor wi g tb) (sFor fi fg F) := fun r s Hf0 H L sr D q => by
  refine hi r s Hf0 H L sr _ ?_
  cases ei : fi r with
  | bad => simp only [sFor, ei] at q; exact q.elim
  | exc e' =>
    simp only [sFor, ei] at q
    exact fun cls d Hf1 H1 x1 h1 => q s cls d Hf1 H1 L x1.fsame (sr.mono x1) h1
  | ok its =>
    simp only [sFor, ei] at q
    intro J Hf1 H1 x1 wk
    refine ⟨fun i m s H => m = its.length - i ∧ i ≤ its.length ∧ ∃ r Hf L, c.SR K r s Hf H L ∧ Same Hf1 Hf ∧ PostS c K Hf D (forL fg F (its.drop i) r), ⟨its.length, by simp, Nat.zero_le _, r, Hf1, L, sr.mono x1, Same.refl _, by simpa using q.mono x1.fsame⟩, ?_⟩
    rintro i m s H ⟨rfl, hle, r, Hf, L, sr, f1, q⟩
    obtain ⟨w1, w2⟩ := wk Hf H f1 sr.sub sr.same0
    by_cases hlt : i < its.length
    · have hit : its[i]? = some its[i] := by simp [hlt]
      obtain ⟨go, yld⟩ := w1 i _ hit
      rw [List.drop_eq_getElem_cons hlt] at q
      refine .inr ⟨go, fun s' H' => ∃ r Hf L, c.SR K r s' Hf H' L ∧ Same Hf1 Hf ∧ PostS c K Hf D (forL fg F (its.drop (i + 1)) r), fun s' H' ⟨r', Hf', L', sr', f', q'⟩ => ⟨its.length - (i + 1), by omega, rfl, hlt, r', Hf', L', sr', f', q'⟩, fun x H3 hy => ?_⟩
      obtain ⟨Hf3, x3, a3⟩ := yld x H3 hy
      have sr3 := sr.mono x3
      unfold forL at q
      cases eg : fg its[i] r with
      | none => rw [eg] at q; exact q.elim
      | some r1 =>
        rw [eg] at q
        refine hg _ x r r1 s Hf3 H3 L sr3 a3 eg _ fun s1 L1 sr1 _ => ?_
        refine hb r1 s1 Hf3 H3 L1 sr1 _ ?_
        have f3 : Same Hf1 Hf3 := f1.trans x3.fsame
        have q3 := q.mono x3.fsame
        dsimp only at q3
        cases eF : F r1 with
        | nx r' => rw [eF] at q3; exact fun s2 Hf2 H2 L2 f2 sr2 => ⟨r', Hf2, L2, sr2, f3.trans f2, q3.mono f2⟩
        | ct r' => rw [eF] at q3; exact fun s2 Hf2 H2 L2 f2 sr2 => ⟨r', Hf2, L2, sr2, f3.trans f2, q3.mono f2⟩
        | bk r' => rw [eF] at q3; exact q3
        | ret o => rw [eF] at q3; exact q3
        | exc e' r' => rw [eF] at q3; exact q3
        | bad => rw [eF] at q3; exact q3
    · have e : i = its.length := by omega
      subst e
      rw [List.drop_length] at q
      exact .inl ⟨w2, q s Hf H L (Same.refl _) sr⟩
theorem ds_for {k : Nat} {tg it : Expr} {fi : Env → Res (List R)} {fg : FG} {vs : List Nat} (B : Bk c X k) (hi : DI c X tg it fi) (hg : DG c X tg fg vs) (hb : DSs c X sts F)
    (hs : ∀ x, foldedSetIterable it X.env x = pure x := by intro _; rfl) : DS c X (.For tg it sts [] pos) (sFor fi fg F) := by
  obtain ⟨wi, p, s⟩ := hi.ex
  obtain ⟨g, p2, s2⟩ := hg.ex
  obtain ⟨tb, p3, s3⟩ := hb.ex
  exact ⟨tFor wi g tb, ps_for B.po B.calm p p2 p3 hs, so_for s s2 s3⟩
end DL
namespace DL
open PySem L2
variable {c : Cn} {X : Cx} {a b e : Expr} {es : List Expr} {f g fa fb : FE} {pos : Pos} {fs : Env → Res (List O)} {K : PySem.W.Frag} {H0 H H' Hf Hf' : Hp} {F G : FS} {st : Stmt} {sts : List Stmt} {ft : Env → Res Bool}
def startE (n : Nat) (os : List O) : Env := os.map (S.vl false) ++ List.replicate (n - os.length) S.un
def runF (n : Nat) (F : FS) : List O → Res O := fun os => match F (startE n os) with
  | .ret o => .ok o
  | .nx _ => .ok (.fz .non)
  | .exc e _ => .exc e
  | _ => .bad
theorem env_un {n : Nat} : EnvR K Hf H0 H (List.replicate n S.un) (List.replicate n none) [] := by
  induction n with
  | zero => exact ⟨rfl, rfl⟩
  | succ n ih => exact ⟨none, List.replicate n none, [], [], rfl, rfl, rfl, ih⟩
theorem env_start {m : Nat} : ∀ {os : List O} {vs : List V}, RepVs K Hf H0 os vs → EnvR K Hf H0 H (os.map (S.vl false) ++ List.replicate m S.un) (vs.map some ++ List.replicate m none) []
  | [], _, h => by have h' : _ = _ := h; subst h'; exact env_un
  | o :: os, _, h => by
    obtain ⟨v, r, e1, h1, h2⟩ := h
    subst e1
    exact ⟨some v, _, [], [], rfl, rfl, ⟨h1, rfl⟩, env_start h2⟩
section
variable {P : Program} {w : World} {mg : Str → Option Value} {base : Heap}
theorem Def.of {x qual : Str} {st : Stmt} {fa : Addr} {fd : FuncData} {N ps : List Str} {k n : Nat} {F : FS} (Fn : Fun K x qual st fa fd) (S : FnScope N ps (defScope st)) (hm : mg x = some (.ref fa)) (hb : Binds K fd ps []) (hn : ps.length = n)
    (hbody : ∀ (cdv : Value) (A : Around) (outer : List PySem.Env) (s : Shared) (H : Hp) (E : XK) (Hf : Hp), Bk ⟨Hf, H, fun cls d _ H' => E cls d H'⟩ (cxOf (L2.CX P w) P w K mg base N qual (defScope st) fa cdv A outer s H E) k →
      DSs ⟨Hf, H, fun cls d _ H' => E cls d H'⟩ (cxOf (L2.CX P w) P w K mg base N qual (defScope st) fa cdv A outer s H E) (defBody st) F) : Def P w K mg base x (k + 1) n (runF N.length F) := by
  refine ⟨fa, fd, ps, ?_, hm, Fn.kp, hb, hn⟩
  subst hn
  refine Fn.okX S (fun vs H Q E h => ?_) (fun cdv A outer s H vs Q E hr h => ?_)
  · obtain ⟨Hf, os, _, _, h2, h3, _⟩ := h
    rw [RepVs.length h2, h3]
  · obtain ⟨Hf, os, sub, hro, h2, h3, h4⟩ := h
    have B : Bk ⟨Hf, H, fun cls d _ H' => E cls d H'⟩ (cxOf (L2.CX P w) P w K mg base N qual (defScope st) fa cdv A outer s H E) k := ⟨hr, takes_of rfl rfl rfl rfl, passes_of rfl, rfl⟩
    obtain ⟨t, p, so⟩ := (hbody cdv A outer s H E Hf B).ex
    refine ⟨t, p, ?_⟩
    have hl : vs.length = os.length := RepVs.length h2
    have sr : SR K Hf H (startE N.length os) (L2.start N vs) Hf H [] := by
      refine ⟨Ext.refl sub, ?_, List.nodup_nil, (fun _ h => nomatch h), (fun _ h => nomatch h), hro⟩
      unfold startE L2.start
      rw [hl]
      exact env_start h2
    refine so _ _ Hf H [] sr _ ?_
    unfold runF at h4
    cases e : F (startE N.length os) with
    | ret o => rw [e] at h4; exact fun v Hf' H' L _ x q n => h4 v Hf' H' L x q n
    | nx r => rw [e] at h4; exact fun s Hf' H' L f sr' => h4 .non Hf' H' [] sr'.ext ⟨rfl, rfl⟩ nw_nil
    | bk r => rw [e] at h4; exact h4.elim
    | ct r => rw [e] at h4; exact h4.elim
    | exc e' r => rw [e] at h4; exact fun s cls d Hf' H' L _ sr' h => h4 cls d Hf' H' sr'.ext h
    | bad => rw [e] at h4; exact h4.elim
theorem Def.imp {x : Str} {k n : Nat} {F F' : List O → Res O} (D : Def P w K mg base x k n F) (h : ∀ os, os.length = n → F' os = .bad ∨ F' os = F os) : Def P w K mg base x k n F' := by
  obtain ⟨fa, fd, ps, h1, h2, h3, h4, h5⟩ := D.ex
  refine ⟨fa, fd, ps, h1.imp fun vs H Q E q => ?_, h2, h3, h4, h5⟩
  obtain ⟨Hf, os, q1, q0, q2, q3, q4⟩ := q
  refine ⟨Hf, os, q1, q0, q2, q3, ?_⟩
  rcases h os q3 with e | e
  · rw [e] at q4; exact q4.elim
  · rw [← e]; exact q4
theorem Def.mono {x : Str} {k k' n : Nat} {F : List O → Res O} (D : Def P w K mg base x k n F) (h : k ≤ k') : Def P w K mg base x k' n F := by
  obtain ⟨fa, fd, ps, h1, h2⟩ := D.ex
  exact ⟨fa, fd, ps, h1.mono h, h2⟩
end
def lenO : O → Option Nat
  | .fz (.tup ds) => some ds.length
  | .tp os => some os.length
  | .fz (.str x) => if x.length ≤ 100000 then some x.length else none
  | o => (items o).map List.length
def gLen : List O → Res R
  | [o] => (match lenO o with | some n => fzR (.int n) | none => .bad)
  | _ => .bad
theorem rep1 {o : O} {vs : List V} (h : RepVs K Hf H [o] vs) : ∃ v, vs = [v] ∧ RepV K Hf H o v := by
  obtain ⟨v, r, e, h1, h2⟩ := h
  have h2' : r = [] := h2
  subst h2'
  exact ⟨v, e, h1⟩
theorem lenO_ok {o : O} {v : V} {n : Nat} (s : Same Hf H) (h : RepV K Hf H o v) (e : lenO o = some n) : LenV K v H n := by
  have go : (items o).map List.length = some n → LenV K v H n := fun e => by
    cases ei : items o with
    | none => rw [ei] at e; cases e
    | some os =>
      rw [ei] at e
      have e' : os.length = n := Option.some.inj e
      obtain ⟨a, vs, e1, h1, h2⟩ := items_rep s h ei
      subst e1
      exact .inl ⟨vs, h1, by rw [RepVs.length h2]; exact e'.symm⟩
  cases o with
  | ls os => exact go e
  | tp os =>
    obtain ⟨a, vs, e1, h1, h2⟩ := h
    subst e1
    have e' : os.length = n := Option.some.inj e
    exact .inr ⟨vs, SqT.of h1, by rw [RepVs.length h2]; exact e'.symm⟩
  | ob _ _ _ => cases e
  | dt _ _ => cases e
  | dk _ _ => cases e
  | gh _ _ _ => cases e
  | fz d =>
    cases d with
    | tup ds =>
      obtain ⟨a, vs, e1, h1, h2⟩ := h
      subst e1
      have e' : ds.length = n := Option.some.inj e
      exact .inr ⟨vs, SqT.of (s _ _ h1), by rw [Reps.length h2]; exact e'.symm⟩
    | str x =>
      have h' : v = .str x := h
      subst h'
      simp only [lenO] at e
      by_cases hx : x.length ≤ 100000
      · rw [if_pos hx] at e
        cases e
        exact ⟨Nat.le_trans hx (by decide), rfl⟩
      · rw [if_neg hx] at e; cases e
    | _ => exact go e
theorem pc_len : PureC K (fun xs H Q => ∃ x n, xs = [x] ∧ LenV K x H n ∧ Q (.int n) H) gLen := fun c s Hf H vs os Q sub h q => by
  cases os with
  | nil => exact q.elim
  | cons o os =>
    cases os with
    | cons _ _ => exact q.elim
    | nil =>
      obtain ⟨v, e, h1⟩ := rep1 h
      subst e
      cases el : lenO o with
      | none => simp only [gLen, el] at q; exact q.elim
      | some n =>
        simp only [gLen, el] at q
        exact ⟨v, n, rfl, lenO_ok sub h1 el, postE_fz sub q rfl⟩
section
variable {p : Pos}
theorem de_len (hg : Gl X "len") (hm : X.mg "len" = none) (h : DA c X [e] fs) (he : starEach [e] X.env = (false, eval e X.env) :: starEach [] X.env := by rfl) (hpl : (backTo pos (starEach [] X.env)).any (·.1) = false := by rfl) : DE c X (.Call (.Name "len" p) [e] [] pos) (eB gLen fs) :=
  de_B call_len pc_len hg hm PySem.boot_len h (by decide) (by decide) he hpl
end
def g1I (k : Int → D) : List O → Res R
  | [.fz (.int i)] => fzR (k i)
  | _ => .bad
def g2I (k : Int → Int → D) : List O → Res R
  | [.fz (.int i), .fz (.int j)] => fzR (k i j)
  | _ => .bad
theorem pc_1I {k : Int → D} {kv : Int → V} (hk : ∀ i H, Rep K H (k i) (kv i)) : PureC K (fun xs H Q => ∃ i, xs = [.int i] ∧ Q (kv i) H) (g1I k) := fun c s Hf H vs os Q sub h q => by
  unfold g1I at q
  split at q
  · obtain ⟨v, r, e1, h1, h2⟩ := h
    subst e1
    rw [show r = [] from h2, show v = _ from h1]
    exact ⟨_, rfl, postE_fz sub q (hk _ Hf)⟩
  · exact q.elim
theorem pc_2I {k : Int → Int → D} {kv : Int → Int → V} (hk : ∀ i j H, Rep K H (k i j) (kv i j)) : PureC K (fun xs H Q => ∃ i j, xs = [.int i, .int j] ∧ Q (kv i j) H) (g2I k) := fun c s Hf H vs os Q sub h q => by
  unfold g2I at q
  split at q
  · obtain ⟨v, r, e1, h1, v2, r2, e2, h2, h3⟩ := h
    subst e1 e2
    rw [show r2 = [] from h3, show v = _ from h1, show v2 = _ from h2]
    exact ⟨_, _, rfl, postE_fz sub q (hk _ _ Hf)⟩
  · exact q.elim
def gAbs := g1I fun i => .int (if i < 0 then -i else i)
def gMax2 := g2I fun i j => .int (if j > i then j else i)
def gMin2 := g2I fun i j => .int (if j < i then j else i)
theorem pc_abs : PureC K (fun xs H Q => ∃ i, xs = [.int i] ∧ Q (.int (if i < 0 then -i else i)) H) gAbs := pc_1I fun _ _ => rfl
theorem pc_max2 : PureC K (fun xs H Q => ∃ i j, xs = [.int i, .int j] ∧ Q (.int (if j > i then j else i)) H) gMax2 := pc_2I fun _ _ _ => rfl
def gList : List O → Res R
  | [o] => (match items o with | some os => if allFz os then .ok (.nw (.ls os)) else .bad | none => .bad)
  | _ => .bad
theorem pc_list : PureC K (fun xs H Q => ∃ p ys, xs = [.ref p] ∧ (SqL K H p ys ∨ SqT K H p ys) ∧ ∀ l, H l = none → Q (.ref l) (upd H l (.lst ys))) gList := fun c s Hf H vs os Q sub h q => by
  cases os with
  | nil => exact q.elim
  | cons o os =>
    cases os with
    | cons _ _ => exact q.elim
    | nil =>
      obtain ⟨v, e, h1⟩ := rep1 h
      subst e
      cases ei : items o with
      | none => simp only [gList, ei] at q; exact q.elim
      | some os =>
        simp only [gList, ei] at q
        by_cases hf : allFz os = true
        · rw [if_pos hf] at q
          obtain ⟨a, vs, e1, h2, h3⟩ := items_rep sub h1 ei
          subst e1
          exact ⟨a, vs, rfl, .inl h2, fun l hl => postE_ls sub q hf h3 hl⟩
        · rw [if_neg hf] at q; exact q.elim
inductive Ty where | non | bl | int | str | lst | tup | dct
  deriving DecidableEq
def Ty.nm : Ty → String
  | .non => "NoneType"
  | .bl => "bool"
  | .int => "int"
  | .str => "str"
  | .lst => "list"
  | .tup => "tuple"
  | .dct => "dict"
def tyO : O → Option Ty
  | .ls _ => some .lst
  | .tp _ => some .tup
  | .fz .non => some .non
  | .fz (.bl _) => some .bl
  | .fz (.int _) => some .int
  | .fz (.str _) => some .str
  | .fz (.lst _) => some .lst
  | .fz (.tup _) => some .tup
  | .fz (.dck _ _) => some .dct
  | .dk _ _ => some .dct
  | _ => none
def isT : Ty → Ty → Bool
  | .bl, .int => true
  | a, b => decide (a = b)
theorem kit_is : ∀ a b : Ty, kitB a.nm b.nm = some (isT a b) := by
  intro a b
  cases a <;> cases b <;> decide +kernel
theorem tyO_ok {o : O} {v : V} {t : Ty} (s : Same Hf H) (h : RepV K Hf H o v) (e : tyO o = some t) : TyX K H v (.type t.nm) := by
  cases o with
  | ls os =>
    cases e
    obtain ⟨a, vs, e1, h1, _⟩ := h
    subst e1
    exact .base (.lst h1)
  | tp os =>
    cases e
    obtain ⟨a, vs, e1, h1, _⟩ := h
    subst e1
    exact .base (.tup h1)
  | ob _ _ _ => cases e
  | gh _ _ _ => cases e
  | dt ks ds => cases e
  | dk ks ds =>
    cases e
    obtain ⟨a, vs, e1, h1, _⟩ := h
    subst e1
    exact .base (.dK h1)
  | fz d =>
    cases d with
    | non => cases e; have h' : v = .non := h; subst h'; exact .base .non
    | bl b => cases e; have h' : v = .bl b := h; subst h'; exact .base (.bl b)
    | int b => cases e; have h' : v = .int b := h; subst h'; exact .base (.int b)
    | str b => cases e; have h' : v = .str b := h; subst h'; exact .base (.str b)
    | ex _ => cases e
    | scr _ => cases e
    | lst ds =>
      cases e
      obtain ⟨a, vs, e1, h1, _⟩ := h
      subst e1
      exact .base (.lst (s _ _ h1))
    | tup ds =>
      cases e
      obtain ⟨a, vs, e1, h1, _⟩ := h
      subst e1
      exact .base (.tup (s _ _ h1))
    | obj _ _ _ => cases e
    | row _ _ => cases e
    | dct ks ds => cases e
    | dck ks ds =>
      cases e
      obtain ⟨a, vs, e1, h1, _⟩ := h
      subst e1
      exact .base (.dK (s _ _ h1))
def eIsi (T : Ty) (f : FE) : FE := fun r => (f r).bind fun x => match tyO x.a with
  | some t => fzR (.bl (isT t T))
  | none => .bad
theorem de_isi {p : Pos} (T : Ty) (hg : Gl X "isinstance") (hm : X.mg "isinstance" = none) (hT : PE X e (tC (.ty T.nm))) (h : DE c X a f)
    (he : starEach [a, e] X.env = (false, eval a X.env) :: starEach [e] X.env := by rfl) (hpl : (backTo pos (starEach [e] X.env)).any (·.1) = false := by rfl) (hs : starEach [e] X.env = (false, eval e X.env) :: starEach [] X.env := by rfl) :
    DE c X (.Call (.Name "isinstance" p) [a, e] [] pos) (eIsi T f) := by
  obtain ⟨t, pa, s⟩ := h.ex
  refine ⟨tCB (rIsi X.K) (tCons t (tCons (tC (.ty T.nm)) tNil)), pe_callB call_isi hg hm (by decide +kernel) (pa_cons pa (pa_cons hT pa_nil hs) he) (by decide) (by decide) he hpl, fun r s' Hf H L sr Q q => ?_⟩
  refine s.run sr pstE q fun x v Hf1 H1 x1 sr1 a1 q1 => ?_
  cases et : tyO x.a with
  | none => simp only [et] at q1; exact q1.elim
  | some t =>
    simp only [et] at q1
    exact ⟨v, .ty T.nm, _, _, _, rfl, .ty T.nm, tyO_ok sr1.sub (a1.a sr1.same0) et, kit_ty (kit_is t T), postE_fz sr1.sub q1 rfl⟩
def ixO (o : O) (k : Int) : Option O := match o with
  | .fz (.tup ds) => (atI ds k).map .fz
  | .tp os => atI os k
  | .fz (.str x) => if x.length ≤ 100000 then (atI x.cps.toList k).map fun c => .fz (.str ⟨#[c]⟩) else none
  | o => (items o).bind fun os => atI os k
theorem atI_rep {os : List O} {vs : List V} {k : Int} {o : O} (h : RepVs K Hf H os vs) (e : atI os k = some o) : ∃ v, atI vs k = some v ∧ RepV K Hf H o v := by
  unfold atI at e ⊢
  rw [RepVs.length h]
  cases ei : ixN os.length k with
  | none => rw [ei] at e; cases e
  | some j =>
    rw [ei] at e
    obtain ⟨v, h1, h2⟩ := RepVs.get h (show os[j]? = some o from e)
    exact ⟨v, h1, h2⟩
theorem atI_map {α β : Type} {g : α → β} {xs : List α} {k : Int} : atI (xs.map g) k = (atI xs k).map g := by
  unfold atI
  rw [List.length_map]
  cases ixN xs.length k with
  | none => rfl
  | some j => show (xs.map g)[j]? = (xs[j]?).map g; rw [List.getElem?_map]
theorem ixO_ok {o p : O} {v : V} {k : Int} {Q : VK} (s : Same Hf H) (h : RepV K Hf H o v) (e : ixO o k = some p) (q : ∀ w, RepV K Hf H p w → Q w H) : rIx K v (.int k) H Q := by
  have go : ((items o).bind fun os => atI os k) = some p → rIx K v (.int k) H Q := fun e => by
    cases ei : items o with
    | none => rw [ei] at e; cases e
    | some os =>
      rw [ei] at e
      obtain ⟨a, vs, e1, h1, h2⟩ := items_rep s h ei
      obtain ⟨w, hw, rw'⟩ := atI_rep h2 e
      exact .inl ⟨a, vs, k, w, e1, rfl, h1, hw, q w rw'⟩
  cases o with
  | ls os => exact go e
  | tp os =>
    obtain ⟨a, vs, e1, h1, h2⟩ := h
    have e' : atI os k = some p := e
    obtain ⟨w, hw, rw'⟩ := atI_rep h2 e'
    exact .inr (.inl ⟨a, vs, k, w, e1, rfl, SqT.of h1, hw, q w rw'⟩)
  | ob _ _ _ => exact go e
  | dt _ _ => exact go e
  | dk _ _ => exact go e
  | gh _ _ _ => exact go e
  | fz d =>
    cases d with
    | tup ds =>
      obtain ⟨a, vs, e1, h1, h2⟩ := h
      have e' : (atI ds k).map O.fz = some p := e
      rw [← atI_map] at e'
      obtain ⟨w, hw, rw'⟩ := atI_rep (H := H) (reps_fz h2) e'
      exact .inr (.inl ⟨a, vs, k, w, e1, rfl, SqT.of (s _ _ h1), hw, q w rw'⟩)
    | str x =>
      have h' : v = .str x := h
      subst h'
      simp only [ixO] at e
      by_cases hx : x.length ≤ 100000
      · rw [if_pos hx] at e
        cases ea : atI x.cps.toList k with
        | none => rw [ea] at e; cases e
        | some cc =>
          rw [ea] at e
          cases e
          exact .inr (.inr ⟨x, k, cc, rfl, rfl, Nat.le_trans hx (by decide), ea, q _ rfl⟩)
      · rw [if_neg hx] at e; cases e
    | _ => exact go e
def eIx (f g : FE) : FE := fun r => (f r).bind fun x => (g r).bind fun y => match y.a with
  | .fz (.int k) => (match x with
    | .nw o => (match ixO (.fz (er o)) k with | some (.fz d) => fzR d | _ => .bad)
    | .vw o => (match ixO o k with | some p => .ok (see true p) | none => .bad)
    | .bw o => (match ixO o k with | some p => .ok (see false p) | none => .bad))
  | _ => .bad
theorem de_ix (ha : DE c X a f) (hb : DE c X b g) (hs : PlainIx b := by exact fun _ _ => rfl) : DE c X (.Subscript a b pos) (eIx f g) := by
  obtain ⟨ta, pa, sa⟩ := ha.ex
  obtain ⟨tb, pb, sb⟩ := hb.ex
  refine ⟨tOp (rIx X.K) ta tb, pe_ix ix_seq pa pb hs, fun r s Hf H L sr Q q => ?_⟩
  refine sa.run sr pstE q fun x v Hf1 H1 x1 sr1 a1 q1 => ?_
  refine sb.run sr1 pstE q1 fun y w Hf2 H2 x2 sr2 a2 q2 => ?_
  have a1' := a1.mono x2.fsame x2.same
  have b2 := a2.a sr2.same0
  cases ey : y.a with
  | ls _ => simp only [ey] at q2; exact q2.elim
  | tp _ => simp only [ey] at q2; exact q2.elim
  | ob _ _ _ => simp only [ey] at q2; exact q2.elim
  | dt _ _ => simp only [ey] at q2; exact q2.elim
  | dk _ _ => simp only [ey] at q2; exact q2.elim
  | gh _ _ _ => simp only [ey] at q2; exact q2.elim
  | fz d =>
    cases d with
    | int k =>
      simp only [ey] at q2
      rw [ey] at b2
      have b3 : w = .int k := b2
      subst b3
      cases x with
      | nw o =>
        cases ei : ixO (.fz (er o)) k with
        | none => simp only [ei] at q2; exact q2.elim
        | some p =>
          cases p with
          | ls _ => simp only [ei] at q2; exact q2.elim
          | tp _ => simp only [ei] at q2; exact q2.elim
          | ob _ _ _ => simp only [ei] at q2; exact q2.elim
          | dt _ _ => simp only [ei] at q2; exact q2.elim
          | dk _ _ => simp only [ei] at q2; exact q2.elim
          | gh _ _ _ => simp only [ei] at q2; exact q2.elim
          | fz d =>
            simp only [ei] at q2
            exact ixO_ok (o := .fz (er o)) sr2.sub a1' ei fun w hw => postE_fz sr2.sub q2 hw
      | vw o =>
        cases ei : ixO o k with
        | none => simp only [ei] at q2; exact q2.elim
        | some p =>
          simp only [ei] at q2
          refine ixO_ok sr2.sub a1' ei fun w hw => q2 w Hf2 H2 [] (Ext.refl sr2.sub) ?_ nw_nil
          cases p with
          | fz d => exact ⟨hw, rfl⟩
          | ls os => exact ⟨hw, rfl⟩
          | tp os => exact ⟨hw, rfl⟩
          | ob _ _ _ => exact ⟨hw, rfl⟩
          | dt _ _ => exact ⟨hw, rfl⟩
          | dk _ _ => exact ⟨hw, rfl⟩
          | gh _ _ _ => exact ⟨hw, rfl⟩
      | bw o =>
        cases ei : ixO o k with
        | none => simp only [ei] at q2; exact q2.elim
        | some p =>
          simp only [ei] at q2
          cases o with
          | fz d0 =>
            have hd : ∃ d', p = .fz d' := by
              cases d0 with
              | tup ds =>
                cases ea : atI ds k with
                | none => simp [ixO, ea] at ei
                | some d' => simp [ixO, ea] at ei; exact ⟨d', ei.symm⟩
              | str x =>
                simp only [ixO] at ei
                by_cases hx : x.length ≤ 100000
                · rw [if_pos hx] at ei
                  cases ea : atI x.cps.toList k with
                  | none => rw [ea] at ei; cases ei
                  | some cc => rw [ea] at ei; cases ei; exact ⟨_, rfl⟩
                · rw [if_neg hx] at ei; cases ei
              | lst ds =>
                have ei' : atI (ds.map O.fz) k = some p := ei
                rw [atI_map] at ei'
                cases ea : atI ds k with
                | none => rw [ea] at ei'; cases ei'
                | some d' => rw [ea] at ei'; cases ei'; exact ⟨_, rfl⟩
              | scr ns =>
                have ei' : atI (ns.map fun n => O.fz (.int n)) k = some p := ei
                rw [atI_map] at ei'
                cases ea : atI ns k with
                | none => rw [ea] at ei'; cases ei'
                | some d' => rw [ea] at ei'; cases ei'; exact ⟨_, rfl⟩
              | _ => cases ei
            obtain ⟨d', rfl⟩ := hd
            exact ixO_ok (o := .fz d0) sr2.sub a1' ei fun w hw => postE_fz sr2.sub q2 hw
          | ob _ _ _ => cases ei
          | dt _ _ => cases ei
          | dk _ _ => cases ei
          | gh _ _ _ => cases ei
          | ls os =>
            obtain ⟨a, vs, e1, h1, h2⟩ := a1'
            obtain ⟨w, hw, rw'⟩ := atI_rep h2 (show atI os k = some p from ei)
            refine .inl ⟨a, vs, k, w, e1, rfl, SqL.of (sr2.same0.lst h1), hw, q2 w Hf2 H2 [] (Ext.refl sr2.sub) ?_ nw_nil⟩
            cases p with
            | fz d => exact ⟨rw', rfl⟩
            | ls os => exact ⟨rw', rfl⟩
            | tp os => exact ⟨rw', rfl⟩
            | ob _ _ _ => exact ⟨rw', rfl⟩
            | dt _ _ => exact ⟨rw', rfl⟩
            | dk _ _ => exact ⟨rw', rfl⟩
            | gh _ _ _ => exact ⟨rw', rfl⟩
          | tp os =>
            obtain ⟨a, vs, e1, h1, h2⟩ := a1'
            obtain ⟨w, hw, rw'⟩ := atI_rep h2 (show atI os k = some p from ei)
            refine .inr (.inl ⟨a, vs, k, w, e1, rfl, SqT.of (sr2.same0.tup h1), hw, q2 w Hf2 H2 [] (Ext.refl sr2.sub) ?_ nw_nil⟩)
            cases p with
            | fz d => exact ⟨rw', rfl⟩
            | ls os => exact ⟨rw', rfl⟩
            | tp os => exact ⟨rw', rfl⟩
            | ob _ _ _ => exact ⟨rw', rfl⟩
            | dt _ _ => exact ⟨rw', rfl⟩
            | dk _ _ => exact ⟨rw', rfl⟩
            | gh _ _ _ => exact ⟨rw', rfl⟩
    | _ => simp only [ey] at q2; exact q2.elim
end DL
namespace DL
open PySem L2
variable {c : Cn} {X : Cx} {a b e : Expr} {es : List Expr} {f g fa fb : FE} {pos : Pos} {fs : Env → Res (List O)} {K : PySem.W.Frag} {H0 H H' Hf Hf' : Hp} {F G : FS} {st : Stmt} {sts : List Stmt} {ft : Env → Res Bool}
theorem items_lst {o : O} {os : List O} {v : V} (s : Same Hf H) (h : RepV K Hf H o v) (e : items o = some os) (hs : ∀ ns, o ≠ .fz (.scr ns)) : ∃ a vs, v = .ref a ∧ H a = some (.lst vs) ∧ RepVs K Hf H os vs := by
  cases o with
  | ls os' =>
    have e' : os' = os := Option.some.inj e
    subst e'
    exact h
  | tp _ => cases e
  | ob _ _ _ => cases e
  | dt _ _ => cases e
  | dk _ _ => cases e
  | gh _ _ _ => cases e
  | fz d =>
    cases d with
    | lst ds =>
      have e' : ds.map O.fz = os := Option.some.inj e
      subst e'
      obtain ⟨a, vs, e1, h1, h2⟩ := h
      exact ⟨a, vs, e1, s _ _ h1, reps_fz h2⟩
    | scr ns => exact absurd rfl (hs ns)
    | non => cases e
    | bl b => cases e
    | int i => cases e
    | str x => cases e
    | ex c => cases e
    | tup ds => cases e
    | obj _ _ _ => cases e
    | row _ _ => cases e
    | dct _ _ => cases e
    | dck _ _ => cases e
def isScr : O → Bool
  | .fz (.scr _) => true
  | _ => false
theorem isScr_no {o : O} (h : isScr o = false) : ∀ ns, o ≠ .fz (.scr ns) := fun ns e => by subst e; cases h
def lsR (os : List O) : Res R := if os.length ≤ 100000 then (if allFz os then .ok (.nw (.ls os)) else .ok (.vw (.ls os))) else .bad
theorem lsR_len {os : List O} {c : Cn} {s : St} {Q : VK} (q : PostE c K s Hf H Q (lsR os)) : os.length ≤ 100000 := by
  unfold lsR at q
  by_cases h : os.length ≤ 100000
  · exact h
  · rw [if_neg h] at q; exact q.elim
theorem lsR_ok {os : List O} {vs : List V} {c : Cn} {s : St} {Q : VK} {p : Addr} (sub : Same Hf H) (q : PostE c K s Hf H Q (lsR os)) (hr : RepVs K Hf H os vs) (hp : H p = none) : Q (.ref p) (upd H p (.lst vs)) := by
  unfold lsR at q
  by_cases h : os.length ≤ 100000
  · rw [if_pos h] at q
    by_cases ha : allFz os = true
    · rw [if_pos ha] at q; exact postE_ls sub q ha hr hp
    · rw [if_neg ha] at q
      have x := Ext.new (o := .lst vs) sub hp
      exact q (.ref p) Hf _ [] x ⟨⟨p, vs, rfl, upd_same, RepVs.mono (Same.refl _) x.same os vs hr⟩, rfl⟩ ⟨List.nodup_nil, fun _ h => nomatch h⟩
  · rw [if_neg h] at q; exact q.elim
def gCat : O → O → Res R := fun a b => if isScr a || isScr b then .bad else match items a, items b with
  | some xs, some ys => lsR (xs ++ ys)
  | _, _ => .bad
theorem pr_cat : PureR K rCat gCat := fun c s Hf H x y a b Q sub ha hb q => by
  unfold gCat at q
  by_cases hs : (isScr a || isScr b) = true
  · rw [if_pos hs] at q; exact q.elim
  · rw [if_neg hs] at q
    simp only [Bool.or_eq_true, not_or, Bool.not_eq_true] at hs
    cases ea : items a with
    | none => simp only [ea] at q; exact q.elim
    | some xs =>
      cases eb : items b with
      | none => simp only [ea, eb] at q; exact q.elim
      | some ys =>
        simp only [ea, eb] at q
        have l2 := lsR_len q
        obtain ⟨p, vs, e1, h1, h2⟩ := items_lst sub ha ea (isScr_no hs.1)
        obtain ⟨p2, ws, e2, h3, h4⟩ := items_lst sub hb eb (isScr_no hs.2)
        rw [List.length_append] at l2
        exact ⟨p, p2, vs, ws, e1, e2, h1, h3, by rw [RepVs.length h2, RepVs.length h4]; exact Nat.le_trans l2 (by decide), fun l hl => lsR_ok sub q (h2.append h4) hl⟩
def repL {α : Type} (xs : List α) (k : Nat) : List α := (List.replicate k xs).flatten
theorem repVs_rep {os : List O} {vs : List V} (h : RepVs K Hf H os vs) : ∀ k, RepVs K Hf H (repL os k) (repL vs k)
  | 0 => rfl
  | k + 1 => by
    unfold repL
    rw [List.replicate_succ, List.replicate_succ, List.flatten_cons, List.flatten_cons]
    exact h.append (repVs_rep h k)
def gRep : O → O → Res R
  | a, .fz (.int k) => if isScr a || !small62 k then .bad else (match items a with
    | some xs => if xs.length * k.toNat ≤ 100000 then lsR (repL xs k.toNat) else .bad
    | none => .bad)
  | _, _ => .bad
theorem pr_rep : PureR K rRep gRep := fun c s Hf H x y a b Q sub ha hb q => by
  cases b with
  | ls _ => exact q.elim
  | tp _ => exact q.elim
  | ob _ _ _ => exact q.elim
  | dt _ _ => exact q.elim
  | dk _ _ => exact q.elim
  | gh _ _ _ => exact q.elim
  | fz d =>
    cases d with
    | int k =>
      have hb' : y = .int k := hb
      subst hb'
      have q' : PostE c K s Hf H Q (if isScr a || !small62 k then .bad else (match items a with
        | some xs => if xs.length * k.toNat ≤ 100000 then lsR (repL xs k.toNat) else .bad
        | none => .bad)) := q
      by_cases hs : (isScr a || !small62 k) = true
      · rw [if_pos hs] at q'; exact q'.elim
      · rw [if_neg hs] at q'
        simp only [Bool.or_eq_true, not_or, Bool.not_eq_true, Bool.not_eq_true', Bool.not_eq_false] at hs
        have hk := of_decide_eq_true hs.2
        cases ea : items a with
        | none => simp only [ea] at q'; exact q'.elim
        | some xs =>
          simp only [ea] at q'
          by_cases hz : xs.length * k.toNat ≤ 100000
          · rw [if_pos hz] at q'
            have l2 := lsR_len q'
            obtain ⟨p, vs, e1, h1, h2⟩ := items_lst sub ha ea (isScr_no hs.1)
            exact ⟨p, k, vs, e1, rfl, h1, by omega, by omega, by rw [RepVs.length h2]; exact Nat.le_trans hz (by decide), fun l hl => lsR_ok sub q' (repVs_rep h2 _) hl⟩
          · rw [if_neg hz] at q'; exact q'.elim
    | _ => exact q.elim
theorem PureR.or {r1 r2 : R2} {g1 g2 : O → O → Res R} (C : O → O → Bool) (h1 : PureR K r1 g1) (h2 : PureR K r2 g2) : PureR K (fun x y H Q => r1 x y H Q ∨ r2 x y H Q) (fun a b => if C a b then g1 a b else g2 a b) := fun c s Hf H x y a b Q sub ha hb q => by
  dsimp only at q
  by_cases h : C a b = true
  · rw [if_pos h] at q; exact .inl (h1 c s Hf H x y a b Q sub ha hb q)
  · rw [if_neg h] at q; exact .inr (h2 c s Hf H x y a b Q sub ha hb q)
def gCatS : O → O → Res R
  | .fz (.str x), .fz (.str y) => if x.length + y.length ≤ 100000 then fzR (.str (x ++ y)) else .bad
  | _, _ => .bad
theorem pr_catS : PureR K (fun x y H Q => ∃ i j, x = .str i ∧ y = .str j ∧ i.length + j.length ≤ sizeLine ∧ Q (.str (i ++ j)) H) gCatS := fun c s Hf H x y a b Q sub ha hb q => by
  cases a with
  | ls _ => exact q.elim
  | tp _ => exact q.elim
  | ob _ _ _ => exact q.elim
  | dt _ _ => exact q.elim
  | dk _ _ => exact q.elim
  | gh _ _ _ => exact q.elim
  | fz d => cases d with
    | str z => cases b with
      | ls _ => exact q.elim
      | tp _ => exact q.elim
      | ob _ _ _ => exact q.elim
      | dt _ _ => exact q.elim
      | dk _ _ => exact q.elim
      | gh _ _ _ => exact q.elim
      | fz d => cases d with
        | str z2 =>
          have q' : PostE c K s Hf H Q (if z.length + z2.length ≤ 100000 then fzR (.str (z ++ z2)) else .bad) := q
          by_cases hl : z.length + z2.length ≤ 100000
          · rw [if_pos hl] at q'
            exact ⟨z, z2, ha, hb, Nat.le_trans hl (by decide), postE_fz sub q' rfl⟩
          · rw [if_neg hl] at q'; exact q'.elim
        | _ => exact q.elim
    | _ => exact q.elim
def isI : O → O → Bool
  | .fz (.int _), _ => true
  | _, _ => false
def isS : O → O → Bool
  | .fz (.str _), _ => true
  | _, _ => false
def gAddA : O → O → Res R := fun a b => if isI a b then gAdd a b else if isS a b then gCatS a b else gCat a b
def gMulA : O → O → Res R := fun a b => if isI a b then gMul a b else gRep a b
theorem de_addA (ha : DE c X a fa) (hb : DE c X b fb) : DE c X (.BinOp a .Add b pos) (eOp gAddA fa fb) :=
  de_op (op_add.or (op_add_str.or op_cat)) (PureR.or isI (pure_I0 fun _ _ _ => rfl) (PureR.or isS pr_catS pr_cat)) ha hb
theorem de_mulA (ha : DE c X a fa) (hb : DE c X b fb) : DE c X (.BinOp a .Mult b pos) (eOp gMulA fa fb) :=
  de_op (op_mulH.or op_rep) (PureR.or isI (pure_I (fun i j h => by unfold CMulH; exact of_decide_eq_true h) fun _ _ _ => rfl) pr_rep) ha hb
mutual
def py : D → Option PyData
  | .non => some .none
  | .bl b => some (.bool b)
  | .int i => some (.int i)
  | .str x => some (.str x)
  | .lst ds => (pys ds).map .list
  | .tup ds => (pys ds).map .tuple
  | _ => none
def pys : List D → Option (List PyData)
  | [] => some []
  | d :: ds => (py d).bind fun p => (pys ds).map (p :: ·)
end
mutual
theorem dp_of : ∀ {d : D} {p : PyData} {v : V}, py d = some p → Rep K H d v → Dp K H v p
  | .non, p, v, e, h => by have h' : v = .non := h; subst h'; cases e; exact .non
  | .bl b, p, v, e, h => by have h' : v = .bl b := h; subst h'; cases e; exact .bl b
  | .int b, p, v, e, h => by have h' : v = .int b := h; subst h'; cases e; exact .int b
  | .str b, p, v, e, h => by have h' : v = .str b := h; subst h'; cases e; exact .str b
  | .lst ds, p, v, e, h => by
    obtain ⟨a, vs, e1, h1, h2⟩ := h
    subst e1
    cases e2 : pys ds with
    | none => simp [py, e2] at e
    | some ps =>
      have e' : PyData.list ps = p := by simpa [py, e2] using e
      subst e'
      exact .lst (SqL.of h1) (dps_of e2 h2)
  | .tup ds, p, v, e, h => by
    obtain ⟨a, vs, e1, h1, h2⟩ := h
    subst e1
    cases e2 : pys ds with
    | none => simp [py, e2] at e
    | some ps =>
      have e' : PyData.tuple ps = p := by simpa [py, e2] using e
      subst e'
      exact .tup (SqT.of h1) (dps_of e2 h2)
  | .scr _, _, _, e, _ => by simp [py] at e
  | .ex _, _, _, e, _ => by simp [py] at e
  | .obj _ _ _, _, _, e, _ => by simp [py] at e
  | .row _ _, _, _, e, _ => by simp [py] at e
  | .dct _ _, _, _, e, _ => by simp [py] at e
  | .dck _ _, _, _, e, _ => by simp [py] at e
theorem dps_of : ∀ {ds : List D} {ps : List PyData} {vs : List V}, pys ds = some ps → Reps K H ds vs → DpAll K H vs ps
  | [], ps, vs, e, h => by
    have h' : vs = [] := h
    subst h'
    have e' : [] = ps := by simpa [pys] using e
    subst e'
    exact .nil
  | d :: ds, ps, vs, e, h => by
    obtain ⟨v, r, e1, h1, h2⟩ := h
    subst e1
    cases e2 : py d with
    | none => simp [pys, e2] at e
    | some p =>
      cases e3 : pys ds with
      | none => simp [pys, e2, e3] at e
      | some qs =>
        have e' : p :: qs = ps := by simpa [pys, e2, e3] using e
        subst e'
        exact .cons (dp_of e2 h1) (dps_of e3 h2)
end
mutual
theorem RepV.rep (s : Same Hf H) : ∀ (o : O) (v : V), RepV K Hf H o v → Rep K H (er o) v
  | .fz d, v, h => Rep.mono s d v h
  | .ls os, v, h => by
    obtain ⟨a, vs, e1, h1, h2⟩ := h
    exact ⟨a, vs, e1, h1, RepVs.rep s os vs h2⟩
  | .tp os, v, h => by
    obtain ⟨a, vs, e1, h1, h2⟩ := h
    exact ⟨a, vs, e1, h1, RepVs.rep s os vs h2⟩
  | .ob c ns os, v, h => by
    obtain ⟨a, dx, vs, e1, h1, h3, h4, h2, _⟩ := h
    exact ⟨a, dx, vs, e1, h1, h3, by rw [h4, ers_eq, List.length_map], RepVs.rep s os vs h2⟩
  | .dt ks ds, v, h => by
    obtain ⟨a, vs, e1, h1, h3, h2⟩ := h
    exact ⟨a, vs, e1, h1, h3, Reps.mono s ds vs h2⟩
  | .dk ks ds, v, h => by
    obtain ⟨a, vs, e1, h1, h3, h2⟩ := h
    exact ⟨a, vs, e1, h1, h3, Reps.mono s ds vs h2⟩
  | .gh o _ _, v, h => RepV.rep s o v h
theorem RepVs.rep (s : Same Hf H) : ∀ (os : List O) (vs : List V), RepVs K Hf H os vs → Reps K H (ers os) vs
  | [], _, h => h
  | o :: os, _, h => by
    obtain ⟨v, r, e1, h1, h2⟩ := h
    exact ⟨v, r, e1, RepV.rep s o v h1, RepVs.rep s os r h2⟩
end
def eqD (d e : D) : Option Bool := match py d, py e with
  | some p, some q => if SeqAt.shaped p && SeqAt.shaped q then some (PyData.eqv p q) else none
  | _, _ => none
def gEqD (a b : O) : Res R := match eqD (er a) (er b) with
  | some k => fzR (.bl k)
  | none => .bad
def gNeD (a b : O) : Res R := match eqD (er a) (er b) with
  | some k => fzR (.bl (!k))
  | none => .bad
def gEq : O → O → Res R
  | .fz (.int i), .fz (.int j) => fzR (.bl (decide (i = j)))
  | a, b => gEqD a b
def gNe : O → O → Res R
  | .fz (.int i), .fz (.int j) => fzR (.bl (!decide (i = j)))
  | a, b => gNeD a b
theorem eqD_ok {x y : V} {a b : O} {k : Bool} (sub : Same Hf H) (ha : RepV K Hf H a x) (hb : RepV K Hf H b y) (e : eqD (er a) (er b) = some k) :
    ∃ p q, Dp K H x p ∧ Dp K H y q ∧ SeqAt.shaped p = true ∧ SeqAt.shaped q = true ∧ PyData.eqv p q = k := by
  unfold eqD at e
  split at e
  · rename_i p q e1 e2
    by_cases hs : (SeqAt.shaped p && SeqAt.shaped q) = true
    · rw [if_pos hs] at e
      rw [Bool.and_eq_true] at hs
      exact ⟨p, q, dp_of e1 (RepV.rep sub a x ha), dp_of e2 (RepV.rep sub b y hb), hs.1, hs.2, Option.some.inj e⟩
    · rw [if_neg hs] at e; cases e
  · cases e
theorem pr_eqD : PureR K (rEqD K) gEqD := fun c s Hf H x y a b Q sub ha hb q => by
  unfold gEqD at q
  cases e : eqD (er a) (er b) with
  | none => simp only [e] at q; exact q.elim
  | some k =>
    simp only [e] at q
    obtain ⟨p, p2, h1, h2, h3, h4, h5⟩ := eqD_ok sub ha hb e
    exact ⟨p, p2, h1, h2, h3, h4, by rw [h5]; exact postE_fz sub q rfl⟩
theorem pr_neD : PureR K (rNeD K) gNeD := fun c s Hf H x y a b Q sub ha hb q => by
  unfold gNeD at q
  cases e : eqD (er a) (er b) with
  | none => simp only [e] at q; exact q.elim
  | some k =>
    simp only [e] at q
    obtain ⟨p, p2, h1, h2, h3, h4, h5⟩ := eqD_ok sub ha hb e
    exact ⟨p, p2, h1, h2, h3, h4, by rw [h5]; exact postE_fz sub q rfl⟩
theorem shaped_int (i : Int) : SeqAt.shaped (.int i) = true := rfl
theorem eqv_int (i j : Int) : PyData.eqv (.int i) (.int j) = decide (i = j) := by
  show (i == j) = _
  by_cases h : i = j
  · subst h; simp
  · rw [decide_eq_false h]; exact beq_eq_false_iff_ne.mpr h
theorem int_cases (a b : O) : (∃ i j, a = .fz (.int i) ∧ b = .fz (.int j)) ∨ (gEq a b = gEqD a b ∧ gNe a b = gNeD a b) := by
  cases a with
  | ls _ => exact .inr ⟨rfl, rfl⟩
  | tp _ => exact .inr ⟨rfl, rfl⟩
  | ob _ _ _ => exact .inr ⟨rfl, rfl⟩
  | dt _ _ => exact .inr ⟨rfl, rfl⟩
  | dk _ _ => exact .inr ⟨rfl, rfl⟩
  | gh _ _ _ => exact .inr ⟨rfl, rfl⟩
  | fz d => cases d with
    | int i => cases b with
      | ls _ => exact .inr ⟨rfl, rfl⟩
      | tp _ => exact .inr ⟨rfl, rfl⟩
      | ob _ _ _ => exact .inr ⟨rfl, rfl⟩
      | dt _ _ => exact .inr ⟨rfl, rfl⟩
      | dk _ _ => exact .inr ⟨rfl, rfl⟩
      | gh _ _ _ => exact .inr ⟨rfl, rfl⟩
      | fz d => cases d with
        | int j => exact .inl ⟨i, j, rfl, rfl⟩
        | _ => exact .inr ⟨rfl, rfl⟩
    | _ => exact .inr ⟨rfl, rfl⟩
theorem pr_eq : PureR K (rEqD K) gEq := fun c s Hf H x y a b Q sub ha hb q => by
  rcases int_cases a b with ⟨i, j, rfl, rfl⟩ | ⟨e1, _⟩
  · have h1 : x = .int i := ha
    have h2 : y = .int j := hb
    subst h1 h2
    exact ⟨.int i, .int j, .int i, .int j, shaped_int i, shaped_int j, by rw [eqv_int]; exact postE_fz sub q rfl⟩
  · rw [e1] at q; exact pr_eqD c s Hf H x y a b Q sub ha hb q
theorem pr_ne : PureR K (rNeD K) gNe := fun c s Hf H x y a b Q sub ha hb q => by
  rcases int_cases a b with ⟨i, j, rfl, rfl⟩ | ⟨_, e1⟩
  · have h1 : x = .int i := ha
    have h2 : y = .int j := hb
    subst h1 h2
    exact ⟨.int i, .int j, .int i, .int j, shaped_int i, shaped_int j, by rw [eqv_int]; exact postE_fz sub q rfl⟩
  · rw [e1] at q; exact pr_neD c s Hf H x y a b Q sub ha hb q
section
variable {k : Nat}
theorem dt_eq (B : Bk c X k) (ha : DE c X a fa) (hb : DE c X b fb) : DT c X (.Compare a [.Eq] [b] pos) (tOf (eOp gEq fa fb)) := dt_cmp (op_eqD B.hr.units) pr_eq ha hb (nomark _)
theorem dt_ne (B : Bk c X k) (ha : DE c X a fa) (hb : DE c X b fb) : DT c X (.Compare a [.NotEq] [b] pos) (tOf (eOp gNe fa fb)) := dt_cmp (op_neD B.hr.units) pr_ne ha hb (nomark _)
theorem de_eq (B : Bk c X k) (ha : DE c X a fa) (hb : DE c X b fb) : DE c X (.Compare a [.Eq] [b] pos) (eOp gEq fa fb) := de_cmp (op_eqD B.hr.units) pr_eq ha hb (nomark _)
theorem de_ne (B : Bk c X k) (ha : DE c X a fa) (hb : DE c X b fb) : DE c X (.Compare a [.NotEq] [b] pos) (eOp gNe fa fb) := de_cmp (op_neD B.hr.units) pr_ne ha hb (nomark _)
end
def cutL {α : Type} (xs : List α) (lo hi : Option Int) : List α := (xs.drop (HT.sIx xs.length 0 lo)).take (HT.sIx xs.length xs.length hi - HT.sIx xs.length 0 lo)
theorem RepVs.drop : ∀ {os : List O} {vs : List V} (n : Nat), RepVs K Hf H os vs → RepVs K Hf H (os.drop n) (vs.drop n)
  | [], _, n, h => by have h' : _ = _ := h; subst h'; cases n <;> rfl
  | o :: os, _, 0, h => h
  | o :: os, _, n + 1, h => by
    obtain ⟨v, r, e, h1, h2⟩ := h
    subst e
    exact RepVs.drop n h2
theorem RepVs.take : ∀ {os : List O} {vs : List V} (n : Nat), RepVs K Hf H os vs → RepVs K Hf H (os.take n) (vs.take n)
  | [], _, n, h => by have h' : _ = _ := h; subst h'; cases n <;> rfl
  | o :: os, _, 0, h => rfl
  | o :: os, _, n + 1, h => by
    obtain ⟨v, r, e, h1, h2⟩ := h
    subst e
    exact ⟨v, _, rfl, h1, RepVs.take n h2⟩
theorem RepVs.cut {os : List O} {vs : List V} (lo hi : Option Int) (h : RepVs K Hf H os vs) : RepVs K Hf H (cutL os lo hi) (cutV vs lo hi) := by
  unfold cutL cutV
  rw [RepVs.length h]
  exact (h.drop _).take _
def FP := Env → Res (Option Int)
def pNone : FP := fun _ => .ok none
def pSome (f : FE) : FP := fun r => (f r).bind fun x => match x.a with
  | .fz (.int k) => .ok (some k)
  | _ => .bad
def PostP (c : Cn) (K : PySem.W.Frag) (s : St) (Hf H : Hp) (Q : Option Int → Hp → Prop) : Res (Option Int) → Prop
  | .ok b => ∀ Hf' H', Ext Hf H Hf' H' → Q b H'
  | .exc e => PostX c K s Hf H e
  | .bad => False
theorem pstP {s : St} {Q : Option Int → Hp → Prop} : Pst c K s (fun Hf H z => PostP c K s Hf H Q z) where
  bad := fun _ _ h => h
  exc := fun _ _ _ h => h
  mono := fun Hf H Hf' H' z x h => by
    cases z with
    | ok r => exact fun Hf2 H2 y => h Hf2 H2 (x.trans y)
    | exc e => exact PostX.mono x h
    | bad => exact h
def SoP (c : Cn) (K : PySem.W.Frag) (t : TO) (f : FP) : Prop := ∀ r s Hf H L, c.SR K r s Hf H L → ∀ Q, PostP c K s Hf H Q (f r) → t s H Q
structure DP (c : Cn) (X : Cx) (e : Option Expr) (f : FP) : Prop where
  ex : ∃ t, PO X e t ∧ SoP c X.K t f
theorem dp_none : DP c X none pNone := ⟨tNoPart, po_none, fun r s Hf H L sr Q q => q Hf H (Ext.refl sr.sub)⟩
theorem dp_some (h : DE c X e f) : DP c X (some e) (pSome f) := by
  obtain ⟨t, p, s⟩ := h.ex
  refine ⟨tPart t, po_some p, fun r s' Hf H L sr Q q => ?_⟩
  refine s.run sr pstP q fun x v Hf1 H1 x1 sr1 a1 q1 => ?_
  have a2 := a1.a sr1.same0
  cases ex : x.a with
  | ls _ => simp only [ex] at q1; exact q1.elim
  | tp _ => simp only [ex] at q1; exact q1.elim
  | ob _ _ _ => simp only [ex] at q1; exact q1.elim
  | dt _ _ => simp only [ex] at q1; exact q1.elim
  | dk _ _ => simp only [ex] at q1; exact q1.elim
  | gh _ _ _ => simp only [ex] at q1; exact q1.elim
  | fz d =>
    cases d with
    | int k =>
      simp only [ex] at q1
      rw [ex] at a2
      exact ⟨k, a2, q1 Hf1 H1 (Ext.refl sr1.sub)⟩
    | _ => simp only [ex] at q1; exact q1.elim
theorem SoP.run {t : TO} {fp : FP} {r : Env} {s : St} {L : List Addr} (h : SoP c K t fp) (sr : c.SR K r s Hf H L) {β : Type} {post : Hp → Hp → Res β → Prop} (P : Pst c K s post) {k : Option Int → Res β} (hp : post Hf H ((fp r).bind k)) {Q : Option Int → Hp → Prop}
    (hq : ∀ b Hf1 H1, Ext Hf H Hf1 H1 → c.SR K r s Hf1 H1 L → post Hf1 H1 (k b) → Q b H1) : t s H Q := by
  refine h r s Hf H L sr Q ?_
  cases e : fp r with
  | bad => rw [e] at hp; exact absurd hp (P.bad _ _)
  | exc e' => rw [e] at hp; exact P.exc _ _ _ hp
  | ok x =>
    rw [e] at hp
    intro Hf1 H1 x1
    exact hq x Hf1 H1 x1 (sr.mono x1) (P.mono _ _ _ _ _ x1 hp)
def eSl (f : FE) (l h : FP) : FE := fun r => (f r).bind fun x => (l r).bind fun lo => (h r).bind fun hi => match items x.a with
  | some os => lsR (cutL os lo hi)
  | none => .bad
theorem de_sl {lo hi : Option Expr} {fl fh : FP} {p2 : Pos} (h : DE c X a f) (hl : DP c X lo fl) (hh : DP c X hi fh) : DE c X (.Subscript a (.Slice lo hi none p2) pos) (eSl f fl fh) := by
  obtain ⟨t, p, s⟩ := h.ex
  obtain ⟨tl, pl, sl⟩ := hl.ex
  obtain ⟨th, ph, sh⟩ := hh.ex
  refine ⟨_, pe_slice sl_list p pl ph, fun r s' Hf H L sr Q q => ?_⟩
  refine s.run sr pstE q fun x v Hf1 H1 x1 sr1 a1 q1 => ?_
  refine sl.run sr1 pstE q1 fun l Hf2 H2 x2 sr2 q2 => ?_
  refine sh.run sr2 pstE q2 fun u Hf3 H3 x3 sr3 q3 => ?_
  have a3 := (a1.mono (x2.trans x3).fsame (x2.trans x3).same).a sr3.same0
  cases ei : items x.a with
  | none => simp only [ei] at q3; exact q3.elim
  | some os =>
    simp only [ei] at q3
    obtain ⟨p', vs, e1, h1, h2⟩ := items_rep sr3.sub a3 ei
    exact ⟨p', vs, e1, h1, fun l hl => lsR_ok sr3.sub q3 (h2.cut _ _) hl⟩
def newO : R → Option O
  | .nw o => some o
  | _ => none
def lcL (fg : FG) (ft : Env → Res Bool) (f : FE) (r : Env) : List R → List O → Res R
  | [], acc => .ok (.nw (.ls acc))
  | x :: xs, acc => match fg x r with
    | none => .bad
    | some r1 => (match ft r1 with
      | .ok true => (match f r1 with
        | .ok y => (match newO y with
          | some o => if acc.length ≤ 100000 then lcL fg ft f r xs (acc ++ [o]) else .bad
          | none => .bad)
        | _ => .bad)
      | .ok false => lcL fg ft f r xs acc
      | _ => .bad)
def wipeE (r : Env) : List Nat → Env
  | [] => r
  | v :: vs => (wipeE r vs).set v S.un
def tYesD : Env → Res Bool := fun _ => .ok true
theorem SR.wipe {r : Env} {s : St} {L : List Addr} (sr : c.SR K r s Hf H L) : ∀ vs : List Nat, (∀ v ∈ vs, v < r.length) → ∃ L', c.SR K (wipeE r vs) (wipe s vs) Hf H L' ∧ (wipeE r vs).length = r.length ∧ ∀ a ∈ L', a ∈ L
  | [], _ => ⟨L, sr, rfl, fun _ h => h⟩
  | v :: vs, hv => by
    obtain ⟨L', sr', hl, hs⟩ := SR.wipe sr vs fun w hw => hv w (List.mem_cons_of_mem _ hw)
    have hi : v < (wipeE r vs).length := by rw [hl]; exact hv v List.mem_cons_self
    obtain ⟨z, hz⟩ : ∃ z, (wipeE r vs)[v]? = some z := ⟨(wipeE r vs)[v], by simp [hi]⟩
    obtain ⟨w, A, M, B, h1, h2, h3, h4⟩ := sr'.env.at hz
    have sub2 : ∀ a ∈ A ++ [] ++ B, a ∈ L' := fun a ha => by
      rw [h2]; simp only [List.mem_append, List.not_mem_nil, or_false] at ha ⊢
      rcases ha with ha | ha
      · exact .inl (.inl ha)
      · exact .inr ha
    refine ⟨A ++ [] ++ B, ⟨sr'.ext, h4 Hf H .un none [] (Same.refl _) Tst.rf (fun _ _ _ e => e) rfl, ?_, fun a ha => sr'.fr a (sub2 a ha), fun a ha => sr'.ok a (sub2 a ha), sr'.rows⟩, by unfold wipeE; rw [List.length_set]; exact hl, fun a ha => hs a (sub2 a ha)⟩
    have nd := sr'.nd
    rw [h2] at nd
    simp only [List.nodup_append, List.mem_append] at nd
    simp only [List.append_nil, List.nodup_append]
    obtain ⟨⟨n1, n2, d1⟩, n3, d2⟩ := nd
    exact ⟨n1, n3, fun a ha b hb => d2 a (.inl ha) b hb⟩
theorem wipe_out {i : Nat} {v : Option V} : ∀ {vs : List Nat} {s : St}, i ∉ vs → wipe (s.set i v) vs = (wipe s vs).set i v
  | [], _, _ => rfl
  | k :: vs, s, hk => by
    simp only [List.mem_cons, not_or] at hk
    show (wipe (s.set i v) vs).set k none = ((wipe s vs).set k none).set i v
    rw [wipe_out hk.2, List.set_comm _ _ hk.1]
theorem wipe_wipe {s : St} : ∀ {vs : List Nat}, wipe (wipe s vs) vs = wipe s vs
  | [] => rfl
  | v :: vs => by
    show (wipe ((wipe s vs).set v none) vs).set v none = (wipe s vs).set v none
    by_cases h : v ∈ vs
    · rw [wipe_set h, wipe_wipe]
    · rw [wipe_out h, wipe_wipe, List.set_set]
theorem RepOs.append : ∀ {os : List O} {vs : List V} {M : List Addr} {o : O} {v : V} {L : List Addr}, RepOs K Hf H os vs M → RepO K Hf H o v L → RepOs K Hf H (os ++ [o]) (vs ++ [v]) (M ++ L)
  | [], _, _, o, v, L, h, h2 => by
    obtain ⟨h3, h4⟩ := h
    subst h3 h4
    exact ⟨v, [], L, [], rfl, by simp, h2, rfl, rfl⟩
  | x :: os, _, _, o, v, L, h, h2 => by
    obtain ⟨w, r, L1, L2, e1, e2, h3, h4⟩ := h
    subst e1 e2
    exact ⟨w, _, L1, L2 ++ L, rfl, by simp [List.append_assoc], h3, RepOs.append h4 h2⟩
def Cn.blk (c : Cn) : Cn := ⟨c.Hf0, c.H0, fun _ _ _ _ => False⟩
theorem so_lc {wi : TI} {g : TG} {tt : TT} {te : TE} {fi : Env → Res (List R)} {fg : FG} {vs : List Nat} (hi : SoI c K wi fi) (hg : SoG c.blk K g fg vs) (ht : SoT c.blk K tt ft) (he : SoE c.blk K te f) :
    SoE c K (tLc wi g tt te vs) (fun r => (fi r).bind fun its => if vs.all (· < r.length) then lcL fg ft f (wipeE r vs) its [] else .bad) := fun r s Hf0 H L sr Q q => by
  refine hi r s Hf0 H L sr _ ?_
  cases ei : fi r with
  | bad => simp only [ei, Res.bind] at q; exact q.elim
  | exc e' => simp only [ei, Res.bind] at q; exact q
  | ok its =>
    simp only [ei, Res.bind] at q
    by_cases hvs : vs.all (· < r.length) = true
    · rw [if_pos hvs] at q
      have hv' : ∀ v ∈ vs, v < r.length := fun v hv => of_decide_eq_true (List.all_eq_true.mp hvs v hv)
      intro J Hf1 H1 x1 wk D hD
      have sr1 := sr.mono x1
      have q := (pstE (c := c) (K := K) (s := s) (Q := Q)).mono _ _ _ _ _ x1 q
      refine ⟨fun i m H => m = its.length - i ∧ i ≤ its.length ∧ ∃ Hf acc us M, Ext Hf1 H1 Hf H ∧ H D = some (.lst us) ∧ RepOs K Hf H acc us M ∧ Nw H1 Hf H (D :: M) ∧ PostE c K s Hf1 H1 Q (lcL fg ft f (wipeE r vs) (its.drop i) acc),
        ⟨its.length, by simp, Nat.zero_le _, Hf1, [], [], [], Ext.new sr1.sub hD, upd_same, ⟨rfl, rfl⟩, ⟨by simp, fun a ha => ?_⟩, by simpa using q⟩, ?_⟩
      · have e : a = D := by simpa using ha
        subst e
        exact ⟨hD, sub_none sr1.sub hD, by rw [upd_same]; simp⟩
      rintro i m H ⟨rfl, hle, Hf, acc, us, M, x2, hDl, ha, nw, q⟩
      have sr2 := sr1.mono x2
      obtain ⟨w1, w2⟩ := wk Hf H x2.fsame x2.sub sr2.same0
      by_cases hlt : i < its.length
      · have hit : its[i]? = some its[i] := by simp [hlt]
        obtain ⟨go, yld⟩ := w1 i _ hit
        rw [List.drop_eq_getElem_cons hlt] at q
        refine .inr ⟨go, fun H' => ∃ Hf acc us M, Ext Hf1 H1 Hf H' ∧ H' D = some (.lst us) ∧ RepOs K Hf H' acc us M ∧ Nw H1 Hf H' (D :: M) ∧ PostE c K s Hf1 H1 Q (lcL fg ft f (wipeE r vs) (its.drop (i + 1)) acc),
          fun H' h => ⟨its.length - (i + 1), by omega, rfl, hlt, h⟩, fun x H3 hy => ?_⟩
        obtain ⟨Hf3, x3, a3⟩ := yld x H3 hy
        obtain ⟨Lw, srw, hwl, hsub⟩ := (sr2.mono x3).wipe vs hv'
        unfold lcL at q
        cases eg : fg its[i] (wipeE r vs) with
        | none => rw [eg] at q; exact q.elim
        | some r1 =>
          rw [eg] at q
          dsimp only at q
          refine hg _ x (wipeE r vs) r1 (wipe s vs) Hf3 H3 Lw ⟨srw.ext, srw.env, srw.nd, srw.fr, srw.ok, srw.rows⟩ a3 eg _ fun s1 L1 srb hw => ?_
          refine ⟨by rw [hw, wipe_wipe], ?_⟩
          refine ht r1 s1 Hf3 H3 L1 srb _ ?_
          have keepM : ∀ a ∈ D :: M, H a ≠ none := fun a ha => (nw.fr a ha).2.2
          cases et : ft r1 with
          | bad => rw [et] at q; exact q.elim
          | exc e' => rw [et] at q; exact q.elim
          | ok b =>
            intro Hf4 H4 x4
            cases b with
            | false =>
              rw [et] at q
              have xB := x3.trans x4
              exact ⟨Hf4, acc, us, M, x2.trans xB, xB.same.lst hDl, RepOs.mono xB.fsame acc us M ((RepOs.nx acc us M ha).kp xB.same) ha, ⟨nw.nd, fun a ha => ⟨(nw.fr a ha).1, xB.nf (keepM a ha) (nw.fr a ha).2.1, xB.same.ne_none (keepM a ha)⟩⟩, q⟩
            | true =>
              rw [et] at q
              dsimp only at q
              refine he r1 s1 Hf4 H4 L1 (srb.mono x4) _ ?_
              cases ef : f r1 with
              | bad => rw [ef] at q; exact q.elim
              | exc e' => rw [ef] at q; exact q.elim
              | ok y =>
                rw [ef] at q
                dsimp only at q
                intro v Hf5 H5 L5 x5 a5 n5
                cases y with
                | vw o => exact q.elim
                | bw o => exact q.elim
                | nw o =>
                  simp only [newO] at q
                  by_cases hz : acc.length ≤ 100000
                  · rw [if_pos hz] at q
                    have xB := (x3.trans x4).trans x5
                    have hD5 := xB.same.lst hDl
                    have hl : us.length = acc.length := RepOs.length ha
                    have nD : Hf5 D = none := xB.nf (keepM D List.mem_cons_self) (nw.fr D List.mem_cons_self).2.1
                    have new5 : ∀ a ∈ L5, a ∉ D :: M := fun a h5 hm => (x3.trans x4).same.ne_none (keepM a hm) (n5.fr a h5).1
                    have ndm := List.nodup_cons.mp nw.nd
                    refine ⟨us, hD5, Nat.lt_of_le_of_lt (show us.length ≤ 100000 by omega) (by decide), Hf5, acc ++ [o], us ++ [v], M ++ L5, ⟨fun a u e => ?_, (x2.trans xB).fsame, fun a u e => ?_, (x2.trans xB).keep, fun h => ((x2.trans xB).rows h).set hD5 (Hk.ne rfl)⟩, upd_same, ?_, ⟨?_, fun a ha' => ?_⟩, q⟩
                    · rw [upd_ne (ne_of_none e hD)]; exact (x2.trans xB).same a u e
                    · rw [upd_ne (ne_of_none e nD)]; exact xB.sub a u e
                    · refine RepOs.append (RepOs.mono xB.fsame acc us M (fun a hm u q => ?_) ha) (RepO.mono (Same.refl _) o v L5 (fun a hm u q => ?_) a5)
                      · rw [upd_ne (fun (e : a = D) => ndm.1 (by rw [← e]; exact hm))]; exact (RepOs.nx acc us M ha).kp xB.same a hm u q
                      · rw [upd_ne (fun e => new5 a hm (by rw [e]; exact List.mem_cons_self))]; exact q
                    · refine List.nodup_cons.mpr ⟨fun hm => ?_, List.nodup_append.mpr ⟨ndm.2, n5.nd, fun a h1 b h2 e => ?_⟩⟩
                      · rcases List.mem_append.mp hm with hm | hm
                        · exact ndm.1 hm
                        · exact new5 D hm List.mem_cons_self
                      · subst e; exact new5 a h2 (List.mem_cons_of_mem _ h1)
                    · rcases List.mem_cons.mp ha' with e | hm
                      · subst e
                        exact ⟨hD, nD, by rw [upd_same]; simp⟩
                      · rcases List.mem_append.mp hm with hm | hm
                        · have hm' := List.mem_cons_of_mem D hm
                          exact ⟨(nw.fr a hm').1, xB.nf (keepM a hm') (nw.fr a hm').2.1, by rw [upd_ne (fun (e : a = D) => ndm.1 (by rw [← e]; exact hm))]; exact xB.same.ne_none (keepM a hm')⟩
                        · refine ⟨?_, (n5.fr a hm).2.1, ?_⟩
                          · exact (x2.trans (x3.trans x4)).fresh (n5.fr a hm).1
                          · rw [upd_ne (fun e => new5 a hm (by rw [e]; exact List.mem_cons_self))]; exact (n5.fr a hm).2.2
                  · rw [if_neg hz] at q; exact q.elim
      · have e : i = its.length := by omega
        subst e
        rw [List.drop_length] at q
        exact .inl ⟨w2, q (.ref D) Hf H (D :: M) x2 ⟨D, us, M, rfl, hDl, ha, rfl⟩ nw⟩
    · rw [if_neg hvs] at q; exact q.elim
def eLcD (fi : Env → Res (List R)) (fg : FG) (vs : List Nat) (ft : Env → Res Bool) (f : FE) : FE := fun r => (fi r).bind fun its => if vs.all (· < r.length) then lcL fg ft f (wipeE r vs) its [] else .bad
abbrev blkE (X : Cx) (scope : Scope) (s : Shared) (H : Hp) (C : Addr) (cl : List (Str × Addr)) (fp : List Addr) : Cx := X.blk s H scope (compEnvC scope cl C X.env) fp
theorem all_E {scope : Scope} (h : ∀ s H C cl fp, DE c (blkE X scope s H C cl fp) e f) : ∃ te, (∀ s H C cl fp, PE (blkE X scope s H C cl fp) e te) ∧ SoE c X.K te f := by
  refine ⟨fun σ H Q => ∀ s H0 C cl fp, (h s H0 C cl fp).ex.choose σ H Q, fun s H0 C cl fp => ⟨fun pins s' σ H Q I q => (h s H0 C cl fp).ex.choose_spec.1.run pins s' σ H Q I (q s H0 C cl fp)⟩, fun r s Hf H L sr Q q s' H0 C cl fp => (h s' H0 C cl fp).ex.choose_spec.2 r s Hf H L sr Q q⟩
theorem all_G {scope : Scope} {tg : Expr} {fg : FG} {vs : List Nat} (h : ∀ s H C cl fp, DG c (blkE X scope s H C cl fp) tg fg vs) : ∃ te, (∀ s H C cl fp, PG (blkE X scope s H C cl fp) tg te) ∧ SoG c X.K te fg vs := by
  refine ⟨fun v σ H Q => ∀ s H0 C cl fp, (h s H0 C cl fp).ex.choose v σ H Q, fun s H0 C cl fp => ⟨fun pins s' σ H v u Q I rv q => (h s H0 C cl fp).ex.choose_spec.1.run pins s' σ H v u Q I rv (q s H0 C cl fp)⟩, fun x v r r1 s Hf H L sr a1 e Q q s' H0 C cl fp => (h s' H0 C cl fp).ex.choose_spec.2 x v r r1 s Hf H L sr a1 e Q q⟩
section
variable {k : Nat} {elt tg iter : Expr} {scope : Scope} {own : List (Str × Nat)} {fi : Env → Res (List R)} {fg : FG}
theorem de_lc (B : Bk c X k) (hN : X.N.Nodup) (hi : DI c X tg iter fi) (ok : BlkOk X.N X.env.scope scope own) (hg : ∀ s H C cl fp, DG c.blk (blkE X scope s H C cl fp) tg fg (own.map (·.2))) (he : ∀ s H C cl fp, DE c.blk (blkE X scope s H C cl fp) elt f)
    (hs : ∀ x, foldedSetIterable iter X.env x = pure x := by intro _; rfl) : DE c X (.ListComp elt [⟨tg, iter, [], 0⟩] scope pos) (eLcD fi fg (own.map (·.2)) tYesD f) := by
  obtain ⟨wi, p1, s1⟩ := hi.ex
  obtain ⟨g, p2, s2⟩ := all_G hg
  obtain ⟨te, p3, s3⟩ := all_E he
  refine ⟨_, pe_lc (own := own) B.calm hN p1 ok p2 (fun _ _ _ _ _ => pts_nil) p3 hs, so_lc s1 s2 (fun r s Hf H L sr Q q => q Hf H (Ext.refl sr.sub)) s3⟩
theorem ds_lc {i : Nat} {y : Str} {py : Pos} {spos : Pos} (own' : Bool) (B : Bk c X k) (hN : X.N.Nodup) (hy : X.N[i]? = some y) (hyl : X.env.scope.names.lookup y = some .local)
    (hsw : swapsWith (.ListComp elt [⟨tg, iter, [], 0⟩] scope pos) (some (.Name y py)) spos.line X.env = pure true) (hi : DI c X tg iter fi) (ok : BlkOk X.N X.env.scope scope own) (hg : ∀ s H C cl fp, DG c.blk (blkE X scope s H C cl fp) tg fg (own.map (·.2))) (he : ∀ s H C cl fp, DE c.blk (blkE X scope s H C cl fp) elt f)
    (hs : ∀ x, foldedSetIterable iter X.env x = pure x := by intro _; rfl) : DS c X (.Assign [.Name y py] (.ListComp elt [⟨tg, iter, [], 0⟩] scope pos) spos) (sSet i own' (eLcD fi fg (own.map (·.2)) tYesD f)) := by
  obtain ⟨wi, p1, s1⟩ := hi.ex
  obtain ⟨g, p2, s2⟩ := all_G hg
  obtain ⟨te, p3, s3⟩ := all_E he
  refine ⟨_, ps_setLc (own := own) B.calm hN hy hyl hsw p1 ok p2 (fun _ _ _ _ _ => pts_nil) p3 hs, so_set (so_lc s1 s2 (fun r s Hf H L sr Q q => q Hf H (Ext.refl sr.sub)) s3)⟩
theorem Bk.blk {s : Shared} {H : Hp} {C : Addr} {cl : List (Str × Addr)} {fp : List Addr} (B : Bk c X k) : Bk c.blk (blkE X scope s H C cl fp) k := ⟨B.hr, takes0, PassesOwn.never, B.calm⟩
end
end DL
namespace DL
open PySem L2
variable {c : Cn} {X : Cx} {a b e : Expr} {es : List Expr} {f g fa fb : FE} {pos : Pos} {fs : Env → Res (List O)} {K : PySem.W.Frag} {H0 H H' Hf Hf' : Hp} {F G : FS} {st : Stmt} {sts : List Stmt} {ft : Env → Res Bool}
theorem Ext.newT {p : Addr} {vs : List V} (sub : Same Hf H) (hp : H p = none) : Ext Hf H (upd Hf p (.tup vs)) (upd H p (.tup vs)) :=
  ⟨Same.sm fun a u e => by rw [upd_ne (ne_of_none e hp)]; exact e, fun a u e => by rw [upd_ne (ne_of_none e (sub_none sub hp))]; exact e, fun a u e => by
    by_cases ha : a = p
    · subst ha; rw [upd_same] at e ⊢; exact e
    · rw [upd_ne ha] at e ⊢; exact sub a u e, fun a h1 h2 => by
    by_cases ha : a = p
    · subst ha; exact absurd hp h1
    · rw [upd_ne ha] at h2; exact h2, fun h => h.fz hp (fun k => by obtain ⟨φ, z⟩ := isKn_ext k; cases φ <;> cases z) (fun _ _ _ z => nomatch z) (sub_none sub hp)⟩
def fzOf : R → Option D
  | .nw (.fz d) => some d
  | _ => none
def fzsOf : List R → Option (List D)
  | [] => some []
  | x :: xs => (fzOf x).bind fun d => (fzsOf xs).map (d :: ·)
theorem fzsOf_get : ∀ {its : List R} {ds : List D} {i : Nat} {d : D}, fzsOf its = some ds → ds[i]? = some d → its[i]? = some (.nw (.fz d))
  | [], ds, i, d, e, h => by
    have e' : ds = [] := by simpa [fzsOf] using e.symm
    subst e'; simp at h
  | x :: xs, ds, i, d, e, h => by
    cases e1 : fzOf x with
    | none => simp [fzsOf, e1] at e
    | some d1 =>
      cases e2 : fzsOf xs with
      | none => simp [fzsOf, e1, e2] at e
      | some ds1 =>
        have e' : d1 :: ds1 = ds := by simpa [fzsOf, e1, e2] using e
        subst e'
        cases i with
        | zero =>
          have h' : d1 = d := by simpa using h
          subst h'
          cases x with
          | nw o => cases o with
            | fz d0 => have e3 : d0 = d1 := Option.some.inj e1; subst e3; rfl
            | ls _ => cases e1
            | tp _ => cases e1
            | ob _ _ _ => cases e1
            | dt _ _ => cases e1
            | dk _ _ => cases e1
            | gh _ _ _ => cases e1
          | vw _ => cases e1
          | bw _ => cases e1
        | succ i => simpa using fzsOf_get (i := i) e2 (by simpa using h)
theorem fzsOf_length : ∀ {its : List R} {ds : List D}, fzsOf its = some ds → ds.length = its.length
  | [], ds, e => by have e' : ds = [] := by simpa [fzsOf] using e.symm
                    subst e'; rfl
  | x :: xs, ds, e => by
    cases e1 : fzOf x with
    | none => simp [fzsOf, e1] at e
    | some d1 =>
      cases e2 : fzsOf xs with
      | none => simp [fzsOf, e1, e2] at e
      | some ds1 =>
        have e' : d1 :: ds1 = ds := by simpa [fzsOf, e1, e2] using e
        subst e'
        simp [fzsOf_length e2]
def tup2 (a b : D) : R := .nw (.fz (.tup [a, b]))
def enumL (ds : List D) : List R := ds.zipIdx.map fun p => tup2 (.int (p.2 : Nat)) p.1
def enumR (its : List R) : Res (List R) := match fzsOf its with
  | some ds => .ok (enumL ds)
  | none => .bad
def iEnumD (f : FE) : Env → Res (List R) := fun r => (f r).bind fun x => (itsL x).bind enumR
theorem so_one {t : TE} (h : SoE c K t f) {r : Env} {s : St} {L : List Addr} (sr : c.SR K r s Hf H L) {β : Type} {post : Hp → Hp → Res β → Prop} (P : Pst c K s post) {k : R → Res β} (hp : post Hf H ((f r).bind k)) {Q : List V → Hp → Prop}
    (hq : ∀ x v Hf1 H1, Ext Hf H Hf1 H1 → c.SR K r s Hf1 H1 L → ArgR K c.H0 Hf1 H1 x v → post Hf1 H1 (k x) → Q [v] H1) : tCons t tNil s H Q :=
  h.run sr P hp fun x v Hf1 H1 x1 sr1 a1 q1 => hq x v Hf1 H1 x1 sr1 a1 q1
theorem itsL_exc {x : R} {e : Ec} : itsL x ≠ .exc e := by
  intro e1
  cases x <;> simp only [itsL] at e1 <;> (try split at e1) <;> cases e1
theorem di_enum {p pos tpos : Pos} {elts : List Expr} {kk : Nat} (hg : Gl X "enumerate") (hm : X.mg "enumerate" = none) (h : DE c X e f) (hs : starEach [e] X.env = [(false, eval e X.env)] := by rfl) (hs2 : starEach [e] X.env = (false, eval e X.env) :: starEach [] X.env := by rfl) :
    DI c X (.Tuple elts kk tpos) (.Call (.Name "enumerate" p) [e] [] pos) (iEnumD f) := by
  obtain ⟨t, pe, s⟩ := h.ex
  refine ⟨iEnum X.K (tCons t tNil), pi_enum hg hm (pa_cons pe pa_nil hs2) hs, fun r s' Hf H L sr Q q => ?_⟩
  refine so_one s sr pstI q fun x v Hf1 H1 x1 sr1 a1 q1 => ?_
  cases e1 : itsL x with
  | bad => rw [e1] at q1; exact q1.elim
  | exc e' => exact absurd e1 itsL_exc
  | ok its =>
    rw [e1] at q1
    have q1 : PostI c X.K s' Hf1 H1 Q (enumR its) := q1
    obtain ⟨a, vs, e2, hl, h1, h2⟩ := itsL_ok sr1.sub sr1.same0 a1 e1
    cases e3 : fzsOf its with
    | none => simp only [enumR, e3] at q1; exact q1.elim
    | some ds =>
      simp only [enumR, e3] at q1
      have hds := fzsOf_length e3
      refine ⟨a, vs, by rw [e2], h1, q1 (Ite X.K a) Hf1 H1 (Ext.refl sr1.sub) fun Hf2 H2 f1 f2 f3 => ?_⟩
      obtain ⟨g1, g2⟩ := h2 Hf2 H2 f1 f2 f3
      refine ⟨fun i it hi => ?_, ⟨vs, g1, by simp [enumL]; omega⟩⟩
      have hlt : i < ds.length := by
        have := (List.getElem?_eq_some_iff.mp hi).1
        simpa [enumL] using this
      have ei : (enumL ds)[i]? = some (tup2 (.int (i : Nat)) ds[i]) := by simp [enumL, hlt]
      rw [ei] at hi
      cases hi
      obtain ⟨w, hw, aw⟩ := g2 i _ (fzsOf_get e3 (show ds[i]? = some ds[i] by simp [hlt]))
      refine ⟨⟨vs, w, g1, hw⟩, fun x H3 ⟨T, y, ex, hT, eH, hx⟩ => ?_⟩
      have ew := hx vs g1
      rw [hw] at ew
      cases ew
      subst eH ex
      have xt := Ext.newT (vs := [.int (i : Nat), w]) f2 hT
      exact ⟨_, xt, T, [.int (i : Nat), w], rfl, upd_same, _, _, rfl, rfl, w, [], rfl, Rep.mono xt.fsame _ _ aw, rfl⟩
end DL
namespace DL
open PySem L2
variable {c : Cn} {X : Cx} {a b e : Expr} {es : List Expr} {f g fa fb : FE} {pos : Pos} {fs : Env → Res (List O)} {K : PySem.W.Frag} {H0 H H' Hf Hf' : Hp} {F G : FS} {st : Stmt} {sts : List Stmt} {ft : Env → Res Bool}
section
variable {P : Program} {w : World} {mg : Str → Option Value} {base : Heap} {x qual : Str} {params : Arguments} {body : List Stmt} {scope : Scope} {fa : Addr} {fd : FuncData} {N ps : List Str} {k n : Nat}
theorem Def.ofD (Fn : FunD K x qual params body scope [] [] fa fd) (S : FnScope N ps scope) (hm : mg x = some (.ref fa)) (hb : Binds K fd ps []) (hn : ps.length = n) (F : FS)
    (hbody : ∀ (cdv : Value) (A : Around) (outer : List PySem.Env) (s : Shared) (H : Hp) (E : XK) (Hf : Hp), Bk ⟨Hf, H, fun cls d _ H' => E cls d H'⟩ (cxOf (L2.CX P w) P w K mg base N qual scope fa cdv A outer s H E) k →
      DSs ⟨Hf, H, fun cls d _ H' => E cls d H'⟩ (cxOf (L2.CX P w) P w K mg base N qual scope fa cdv A outer s H E) body F) : Def P w K mg base x (k + 1) n (runF N.length F) := by
  refine ⟨fa, fd, ps, ?_, hm, Fn.kp, hb, hn⟩
  subst hn
  refine Fn.ok S (fun vs H Q E h => ?_) (fun cdv A outer s H vs Q E hr h => ?_)
  · obtain ⟨Hf, os, _, _, h2, h3, _⟩ := h
    rw [RepVs.length h2, h3]
  · obtain ⟨Hf, os, sub, hro, h2, h3, h4⟩ := h
    have B : Bk ⟨Hf, H, fun cls d _ H' => E cls d H'⟩ (cxOf (L2.CX P w) P w K mg base N qual scope fa cdv A outer s H E) k := ⟨hr, takes_of rfl rfl rfl rfl, passes_of rfl, rfl⟩
    obtain ⟨t, p, so⟩ := (hbody cdv A outer s H E Hf B).ex
    refine ⟨t, p, ?_⟩
    have hl : vs.length = os.length := RepVs.length h2
    have sr : SR K Hf H (startE N.length os) (L2.start N vs) Hf H [] := by
      refine ⟨Ext.refl sub, ?_, List.nodup_nil, (fun _ h => nomatch h), (fun _ h => nomatch h), hro⟩
      unfold startE L2.start
      rw [hl]
      exact env_start h2
    refine so _ _ Hf H [] sr _ ?_
    unfold runF at h4
    cases e : F (startE N.length os) with
    | ret o => rw [e] at h4; exact fun v Hf' H' L _ x q n => h4 v Hf' H' L x q n
    | nx r => rw [e] at h4; exact fun s Hf' H' L f sr' => h4 .non Hf' H' [] sr'.ext ⟨rfl, rfl⟩ nw_nil
    | bk r => rw [e] at h4; exact h4.elim
    | ct r => rw [e] at h4; exact h4.elim
    | exc e' r => rw [e] at h4; exact fun s cls d Hf' H' L _ sr' h => h4 cls d Hf' H' sr'.ext h
    | bad => rw [e] at h4; exact h4.elim
def onlyAt (H : Hp) (a : Addr) : Hp := fun b => if b = a then (match H a with
  | some (.lst xs) => some (.lst xs)
  | some (.frz o u) => some (.frz o u)
  | _ => none) else none
theorem only_in {H : Hp} {a b : Addr} {o : HO} (h : onlyAt H a b = some o) : b = a ∧ H a = some o ∧ (∀ φ : Hk, o ≠ φ.o) ∧ ∀ C dx fs, o ≠ .ins C dx fs := by
  unfold onlyAt at h
  by_cases hb : b = a
  · rw [if_pos hb] at h
    refine ⟨hb, ?_⟩
    split at h
    · rename_i xs q
      cases h
      exact ⟨q, (Hk.ne rfl), fun _ _ _ z => (nomatch z)⟩
    · rename_i oo u q
      cases h
      exact ⟨q, (Hk.ne rfl), fun _ _ _ z => (nomatch z)⟩
    · cases h
  · rw [if_neg hb] at h; cases h
theorem only_same {H : Hp} {a : Addr} : Same (onlyAt H a) H := fun b o h => by
  obtain ⟨e, h1, _⟩ := only_in h
  subst e; exact h1
theorem only_rows {T : List Addr} {H : Hp} {a : Addr} (t : TabsA T H) : Rows T (onlyAt H a) H where
  tabs := t
  nk := fun b o h k => by
    obtain ⟨_, _, n, _⟩ := only_in h
    obtain ⟨φ, z⟩ := isKn_ext k
    exact n φ z
  at_ := fun b C dx k r f h => by
    obtain ⟨_, _, _, n⟩ := only_in h
    exact absurd rfl (n _ _ _)
theorem only_seq {K : PySem.W.Frag} {H : Hp} {a : Addr} {xs : List V} (h : SqL K H a xs) : SqL K (onlyAt H a) a xs := by
  rcases h with (h | ⟨o, h⟩) | h
  · exact .inl (.inl (by unfold onlyAt; rw [if_pos rfl, h]))
  · exact .inl (.inr ⟨o, by unfold onlyAt; rw [if_pos rfl, h]⟩)
  · exact .inr h
theorem tabs0 {K : PySem.W.Frag} {H : Hp} (h : nestNames = []) : TabsA (tK K) H := fun p hp => by
  unfold tK at hp
  rw [h] at hp
  cases hp
def spLaw (K : PySem.W.Frag) : Sp := fun vs H Q _ => ∃ (a : Addr) (ns : List Int), vs = [.ref a] ∧ SqL K H a (ns.map V.int) ∧ ns.length ≤ 63 ∧ TabsA (tK K) H ∧ ∀ H', Q (.bl true) H'
theorem law_ok {y : Str} (Fn : FunD K x qual params body scope [] [] fa fd) (S : FnScope N [y] scope) (F : FS)
    (hbody : ∀ (cdv : Value) (A : Around) (outer : List PySem.Env) (s : Shared) (H : Hp) (E : XK) (Hf : Hp), Bk ⟨Hf, H, fun _ _ _ _ => False⟩ (cxOf CX0 P w K mg base N qual scope fa cdv A outer s H E).nox k →
      DSs ⟨Hf, H, fun _ _ _ _ => False⟩ (cxOf CX0 P w K mg base N qual scope fa cdv A outer s H E).nox body F)
    (hlaw : ∀ ns : List Int, ns.length ≤ 63 → runF N.length F [.fz (.scr ns)] = .ok (.fz (.bl true))) : FnOk P w K mg base CX0 (k + 1) fa fd [y] (spLaw K) := by
  refine Fn.ok S (fun vs H Q E h => ?_) (fun cdv A outer s H vs Q E hr h => ?_)
  · obtain ⟨a, ns, rfl, _⟩ := h
    rfl
  · obtain ⟨a, ns, rfl, hS, hl, ht, hq⟩ := h
    have B : Bk ⟨onlyAt H a, H, fun _ _ _ _ => False⟩ (cxOf CX0 P w K mg base N qual scope fa cdv A outer s H E).nox k := ⟨hr, takes0, PassesOwn.never, rfl⟩
    obtain ⟨t, p, so⟩ := (hbody cdv A outer s H E (onlyAt H a) B).ex
    refine ⟨t, p.nox, ?_⟩
    have h2 : RepVs K (onlyAt H a) H [.fz (.scr ns)] [.ref a] := ⟨_, _, rfl, ⟨a, rfl, only_seq hS⟩, rfl⟩
    have sr : SR K (onlyAt H a) H (startE N.length [.fz (.scr ns)]) (L2.start N [.ref a]) (onlyAt H a) H [] := by
      refine ⟨Ext.refl only_same, ?_, List.nodup_nil, (fun _ h => nomatch h), (fun _ h => nomatch h), only_rows ht⟩
      unfold startE L2.start
      exact env_start h2
    refine so _ _ (onlyAt H a) H [] sr _ ?_
    have h4 := hlaw ns hl
    unfold runF at h4
    cases e : F (startE N.length [.fz (.scr ns)]) with
    | ret o =>
      rw [e] at h4
      cases h4
      exact fun v Hf' H' L _ x q n => by
        have q' : v = .bl true := q.1
        subst q'
        exact hq H'
    | nx r => rw [e] at h4; cases h4
    | bk r => rw [e] at h4; cases h4
    | ct r => rw [e] at h4; cases h4
    | exc e' r => rw [e] at h4; cases h4
    | bad => rw [e] at h4; cases h4
end
end DL
namespace DL
open PySem L2
variable {c : Cn} {X : Cx} {a b e : Expr} {es : List Expr} {f g fa fb : FE} {pos : Pos} {fs : Env → Res (List O)} {K : PySem.W.Frag} {H0 H H' Hf Hf' : Hp} {F G : FS} {st : Stmt} {sts : List Stmt} {ft : Env → Res Bool}
structure Rx (K : PySem.W.Frag) (mg : Str → Option Value) (x : Str) : Prop where
  q : PySem.W.excIn K (He.ga K x) He.veBase "ValueError.__new__" = true
  g : mg x = some (.ref (He.ga K x))
  k : PySem.W.keepIn K (.ref (He.ga K x)) = true
  s : PySem.W.subIn K (.ref (He.ga K x)) (.type "BaseException") = some true
  t : PySem.W.typeIn K (.ref (He.ga K x)) = some (.type "type")
  n : PySem.W.nsIn K mainGlobals x = some (some (.ref (He.ga K x)))
theorem Rx.of {mg : Str → Option Value} {h : Heap} {x : Str} (Y : K.In h) (G : h.Ns mainGlobals mg) (c1 : (He.Fa.glo x).ok K = true) (c2 : (He.Fa.exc x).ok K = true) : Rx K mg x := by
  obtain ⟨h1, h2, h3, h4⟩ := He.exc_ok c2
  exact ⟨h1, He.glo_ok Y G c1, h2, h3, h4, He.eqO_ok c1⟩
def sRaise (x : Str) : FS := fun r => .exc ⟨x, []⟩ r
theorem ds_raise {k : Nat} {x m : Str} {j : Nat} {p p2 pos2 : Pos} (R : Rx X.K X.mg x) (B : Bk c X k) (hg : Gl X x) (hdb : (x == ("__debug__" : Str)) = false := by decide) :
    DS c X (.Raise (some (.Call (.Name x p) [.Constant (.str m) j p2] [] pos)) none pos2) (sRaise x) :=
  ⟨_, ps_raise B.calm B.tk (pmk_own PySem.F.excBase_ValueError R.q R.g R.k (raises_own R.s R.t) hg hdb), fun r s Hf H L sr D q => q s (.ref (He.ga X.K x)) none Hf H L (Same.refl _) sr ⟨_, rfl, R.n, rfl⟩⟩
section
variable {pins : List (Addr × Obj)} {σ : St} {s : Shared}
end
section
variable {x n : Str} {cv : Value} {i : Nat} {body suite : List Stmt} {b₀ : Stmt} {np pos' : Pos} {tb : WX → TS} {ts : TS} {Wout : WX}
end
def offS (i : Nat) : Out → Out
  | .nx r => .nx (r.set i .un)
  | .bk r => .bk (r.set i .un)
  | .ct r => .ct (r.set i .un)
  | .ret o => .ret o
  | _ => .bad
abbrev Cn.wi (c : Cn) (W : Wx) : Cn := ⟨c.Hf0, c.H0, W⟩
theorem SR.unset {r : Env} {s : St} {L : List Addr} {i : Nat} (sr : c.SR K r s Hf H L) (hi : i < r.length) : ∃ L', c.SR K (r.set i .un) (s.set i none) Hf H L' := by
  obtain ⟨L', h, _⟩ := sr.wipe [i] (fun v hv => by
    have e : v = i := by simpa using hv
    subst e; exact hi)
  exact ⟨L', h⟩
theorem Ext.known {x : Addr} {o : HO} (sub : Same Hf H) (hx : H x = none) (n1 : ¬ isKn o) (n2 : ∀ C dx fs, o = .ins C dx fs → fs.map (·.1) ≠ rowNs) : Ext Hf H (upd Hf x o) (upd H x o) :=
  ⟨Same.sm fun a u e => by rw [upd_ne (ne_of_none e hx)]; exact e, fun a u e => by rw [upd_ne (ne_of_none e (sub_none sub hx))]; exact e, fun a u e => by
    by_cases ha : a = x
    · subst ha; rw [upd_same] at e ⊢; exact e
    · rw [upd_ne ha] at e ⊢; exact sub a u e, fun a h1 h2 => by
    by_cases ha : a = x
    · subst ha; exact absurd hx h1
    · rw [upd_ne ha] at h2; exact h2, fun h => h.fz hx n1 n2 (sub_none sub hx)⟩
section
variable {x n : Str} {cv : Value} {i k : Nat} {body suite : List Stmt} {b₀ : Stmt} {np pos' : Pos} {tab : List (Str × Bool)}
end
end DL
namespace DL
open PySem L2
variable {c : Cn} {X : Cx} {a b e : Expr} {es : List Expr} {f g fa fb : FE} {pos : Pos} {fs : Env → Res (List O)} {K : PySem.W.Frag} {H0 H H' Hf Hf' : Hp} {F G : FS} {st : Stmt} {sts : List Stmt} {ft : Env → Res Bool}
structure IsT (K : PySem.W.Frag) (u : Value) (tab : List (Str × Bool)) : Prop where
  non : PySem.W.kitOne K (.type "NoneType") u = some false
  exc : ∀ n b, tab.lookup n = some b → ∀ D, PySem.W.nsIn K mainGlobals n = some (some (.ref D)) → ExcC K D ∧ PySem.W.kitOne K (.ref D) u = some b
inductive Ask where | own (x : Str) | ve
def Ask.v (K : PySem.W.Frag) : Ask → Value
  | .own x => .ref (He.ga K x)
  | .ve => .type "ValueError"
abbrev AlY : Type := He.AlD × Bool
def obsY (n : Nat) (fa : List He.Fa) (fn : List He.DefD) (ex : PySem.W.Frag → Bool) (g : Addr → Option Obj) : AlY := (He.obsDG n fa fn g, ex (He.frG g (He.asD g n)))
def hookY (n : Nat) (fa : List He.Fa) (fn : List He.DefD) (ex : PySem.W.Frag → Bool) : PySem.W.Hook where
  α := AlY
  obs := fun s => obsY n fa fn ex s.heap.get?
  val := fun _ => (He.valD fn, true)
  says := fun _ h => ∃ K : PySem.W.Frag, K.In h ∧ He.SaysD fa fn K ∧ ex K = true
  of := fun _ _ e => ⟨_, He.frG_in, congrArg (fun z : AlY => z.1) e, congrArg (fun z : AlY => z.2) e⟩
  keeps := fun _ _ _ ⟨K, hK, d⟩ k => ⟨K, PySem.W.Frag.In.keeps hK k, d⟩
theorem obsY_eq {n : Nat} {fa : List He.Fa} {fn : List He.DefD} {ex : PySem.W.Frag → Bool} {g : Addr → Option Obj} {s : Shared} (h : ∀ a, g a = s.heap.get? a) : obsY n fa fn ex g = (hookY n fa fn ex).obs s := by
  have e : g = s.heap.get? := funext h
  rw [e] <;> rfl
end DL
namespace DL
open PySem PySem.Spec PyProof.Rows L2
variable {c : Cn} {X : Cx} {a b e : Expr} {es : List Expr} {f g fa fb : FE} {pos : Pos} {fs : Env → Res (List O)} {K : PySem.W.Frag} {H0 H H' Hf Hf' : Hp} {F G : FS} {st : Stmt} {sts : List Stmt} {ft : Env → Res Bool}
def stepL {α : Type} (xs : List α) (lo hi st : Option Int) : List α := (sliceRange (sliceBounds lo hi st xs.length).1 (sliceBounds lo hi st xs.length).2.1 (sliceBounds lo hi st xs.length).2.2).filterMap (xs[·]?)
theorem RepVs.none_of {os : List O} {vs : List V} {i : Nat} (h : RepVs K Hf H os vs) (e : os[i]? = none) : vs[i]? = none := by
  rw [List.getElem?_eq_none_iff] at e ⊢
  rw [RepVs.length h]; exact e
theorem RepVs.pick {os : List O} {vs : List V} (h : RepVs K Hf H os vs) : ∀ ix : List Nat, RepVs K Hf H (ix.filterMap (os[·]?)) (ix.filterMap (vs[·]?))
  | [] => rfl
  | i :: ix => by
    cases e : os[i]? with
    | none =>
      rw [List.filterMap_cons_none e, List.filterMap_cons_none (h.none_of e)]
      exact RepVs.pick h ix
    | some o =>
      obtain ⟨v, h1, h2⟩ := RepVs.get h e
      rw [List.filterMap_cons_some e, List.filterMap_cons_some h1]
      exact ⟨v, _, rfl, h2, RepVs.pick h ix⟩
theorem RepVs.step {os : List O} {vs : List V} (h : RepVs K Hf H os vs) (lo hi st : Option Int) : RepVs K Hf H (stepL os lo hi st) (stepL vs lo hi st) := by
  unfold stepL
  rw [RepVs.length h]
  exact h.pick _
def eChain (g1 g2 : O → O → Res R) (fa fb fc : FE) : FE := fun r => (fa r).bind fun x => (fb r).bind fun y => (g1 x.a y.a).bind fun z => onB z.a fun k => if k then (fc r).bind fun w => g2 y.a w.a else fzR (.bl false)
theorem so_chain {r1 r2 : R2} {g1 g2 : O → O → Res R} {ta tb tc : TE} {fc : FE} (h1 : PureR K r1 g1) (h2 : PureR K r2 g2) (ha : SoE c K ta fa) (hb : SoE c K tb fb) (hc : SoE c K tc fc) (hn : ∀ x y e, g1 x y ≠ .exc e) : SoE c K (tChain r1 r2 ta tb tc) (eChain g1 g2 fa fb fc) := fun r s Hf H L sr Q q => by
  refine ha.run sr pstE q fun x v Hf1 H1 x1 sr1 a1 q1 => ?_
  refine hb.run sr1 pstE q1 fun y w Hf2 H2 x2 sr2 a2 q2 => ?_
  have b1 := (a1.mono x2.fsame x2.same).a sr2.same0
  have b2 := a2.a sr2.same0
  refine h1 c s Hf2 H2 v w _ _ _ sr2.sub b1 b2 ?_
  cases e1 : g1 x.a y.a with
  | bad => rw [e1] at q2; exact q2.elim
  | exc e => exact absurd e1 (hn _ _ _)
  | ok z =>
    rw [e1] at q2
    intro u Hf3 H3 L3 x3 a3 n3
    have x4 := x3.add n3 a3.nq
    have sr4 := sr2.mono x4
    have q3 := (pstE (c := c) (K := K) (s := s) (Q := Q)).mono _ _ _ _ _ x4 q2
    obtain ⟨k, ek, q5⟩ := bl_of (a3.argR n3 |>.a sr4.same0) q3
    refine ⟨k, ek, ?_⟩
    cases k with
    | false => exact postE_fz sr4.sub q5 rfl
    | true =>
      refine hc.run sr4 pstE q5 fun w' u' Hf5 H5 x5 sr5 a5 q6 => ?_
      have y5 := (a2.mono (x4.trans x5).fsame (x4.trans x5).same).a sr5.same0
      exact h2 c s Hf5 H5 w u' _ _ Q sr5.sub y5 (a5.a sr5.same0) q6
theorem dt_chain {op op' : CmpOp} {r1 r2 : R2} {g1 g2 : O → O → Res R} {ec : Expr} {fc : FE} (o1 : OpR X (compareOp op) r1) (o2 : OpR X (compareOp op') r2) (h1 : PureR X.K r1 g1) (h2 : PureR X.K r2 g2) (hn : ∀ x y e, g1 x y ≠ .exc e) (ha : DE c X a fa) (hb : DE c X b fb) (hc : DE c X ec fc)
    (hm : lastMarks [op, op'] [b, ec] = false := by with_unfolding_all rfl) : DT c X (.Compare a [op, op'] [b, ec] pos) (tOf (eChain g1 g2 fa fb fc)) := by
  obtain ⟨ta, pa, sa⟩ := ha.ex
  obtain ⟨tb, pb, sb⟩ := hb.ex
  obtain ⟨tc, pc, sc⟩ := hc.ex
  exact ⟨_, pt_chain o1 o2 pa pb pc hm, so_test (so_chain h1 h2 sa sb sc hn)⟩
theorem gInt_noexc {C : Int → Int → Bool} {h : Int → Int → DL.D} : ∀ x y e, gInt C h x y ≠ .exc e := fun x y e z => by
  unfold gInt at z
  split at z
  · split at z <;> cases z
  · cases z
def intsOf : List O → Option (List Int)
  | [] => some []
  | .fz (.int i) :: r => (intsOf r).map (i :: ·)
  | _ => none
theorem intsOf_rep : ∀ {os : List O} {ns : List Int} {vs : List V}, intsOf os = some ns → RepVs K Hf H os vs → vs = ns.map V.int
  | [], ns, vs, e, h => by cases e; exact h
  | o :: os, ns, vs, e, h => by
    obtain ⟨v, r, e1, h1, h2⟩ := h
    subst e1
    cases o with
    | ls _ => simp [intsOf] at e
    | tp _ => simp [intsOf] at e
    | ob _ _ _ => simp [intsOf] at e
    | dt _ _ => simp [intsOf] at e
    | dk _ _ => simp [intsOf] at e
    | gh _ _ _ => simp [intsOf] at e
    | fz d =>
      cases d with
      | int i =>
        cases e2 : intsOf os with
        | none => simp [intsOf, e2] at e
        | some ms =>
          have e3 : i :: ms = ns := by simpa [intsOf, e2] using e
          subst e3
          have hv : v = .int i := h1
          rw [hv, intsOf_rep e2 h2]; rfl
      | _ => simp [intsOf] at e
def minL (x : Int) (xs : List Int) : Int := xs.foldl (fun a b => if b < a then b else a) x
def maxL (x : Int) (xs : List Int) : Int := xs.foldl (fun a b => if a < b then b else a) x
theorem minL_le : ∀ (xs : List Int) (x : Int), minL x xs ≤ x ∧ ∀ y ∈ xs, minL x xs ≤ y
  | [], x => ⟨Int.le_refl _, fun _ h => nomatch h⟩
  | a :: xs, x => by
    by_cases h : a < x
    · have e : minL x (a :: xs) = minL a xs := by show minL (if a < x then a else x) xs = _; rw [if_pos h]
      obtain ⟨h1, h2⟩ := minL_le xs a
      rw [e]
      refine ⟨by omega, fun y hy => ?_⟩
      rcases List.mem_cons.mp hy with h | h
      · rw [h]; exact h1
      · exact h2 y h
    · have e : minL x (a :: xs) = minL x xs := by show minL (if a < x then a else x) xs = _; rw [if_neg h]
      obtain ⟨h1, h2⟩ := minL_le xs x
      rw [e]
      refine ⟨h1, fun y hy => ?_⟩
      rcases List.mem_cons.mp hy with h | h
      · rw [h]; omega
      · exact h2 y h
theorem minL_mem : ∀ (xs : List Int) (x : Int), minL x xs ∈ x :: xs
  | [], x => List.mem_cons_self
  | a :: xs, x => by
    by_cases h : a < x
    · have e : minL x (a :: xs) = minL a xs := by show minL (if a < x then a else x) xs = _; rw [if_pos h]
      rw [e]
      exact List.mem_cons_of_mem _ (minL_mem xs a)
    · have e : minL x (a :: xs) = minL x xs := by show minL (if a < x then a else x) xs = _; rw [if_neg h]
      rw [e]
      rcases List.mem_cons.mp (minL_mem xs x) with h | h
      · rw [h]; exact List.mem_cons_self
      · exact List.mem_cons_of_mem _ (List.mem_cons_of_mem _ h)
theorem maxL_ge : ∀ (xs : List Int) (x : Int), x ≤ maxL x xs ∧ ∀ y ∈ xs, y ≤ maxL x xs
  | [], x => ⟨Int.le_refl _, fun _ h => nomatch h⟩
  | a :: xs, x => by
    by_cases h : x < a
    · have e : maxL x (a :: xs) = maxL a xs := by show maxL (if x < a then a else x) xs = _; rw [if_pos h]
      obtain ⟨h1, h2⟩ := maxL_ge xs a
      rw [e]
      refine ⟨by omega, fun y hy => ?_⟩
      rcases List.mem_cons.mp hy with h | h
      · rw [h]; exact h1
      · exact h2 y h
    · have e : maxL x (a :: xs) = maxL x xs := by show maxL (if x < a then a else x) xs = _; rw [if_neg h]
      obtain ⟨h1, h2⟩ := maxL_ge xs x
      rw [e]
      refine ⟨h1, fun y hy => ?_⟩
      rcases List.mem_cons.mp hy with h | h
      · rw [h]; omega
      · exact h2 y h
theorem maxL_mem : ∀ (xs : List Int) (x : Int), maxL x xs ∈ x :: xs
  | [], x => List.mem_cons_self
  | a :: xs, x => by
    by_cases h : x < a
    · have e : maxL x (a :: xs) = maxL a xs := by show maxL (if x < a then a else x) xs = _; rw [if_pos h]
      rw [e]
      exact List.mem_cons_of_mem _ (maxL_mem xs a)
    · have e : maxL x (a :: xs) = maxL x xs := by show maxL (if x < a then a else x) xs = _; rw [if_neg h]
      rw [e]
      rcases List.mem_cons.mp (maxL_mem xs x) with h | h
      · rw [h]; exact List.mem_cons_self
      · exact List.mem_cons_of_mem _ (List.mem_cons_of_mem _ h)
def gMaxL : List O → Res R
  | [o] => (match (items o).bind intsOf with | some (x :: xs) => fzR (.int (maxL x xs)) | _ => .bad)
  | _ => .bad
theorem ints_items {o : O} {ns : List Int} {v : V} (sub : Same Hf H) (h : RepV K Hf H o v) (e : (items o).bind intsOf = some ns) : ∃ a, v = .ref a ∧ SqL K H a (ns.map V.int) := by
  cases ei : items o with
  | none => rw [ei] at e; cases e
  | some os =>
    rw [ei] at e
    obtain ⟨a, vs, e1, h1, h2⟩ := items_rep sub h ei
    rw [intsOf_rep (show intsOf os = some ns from e) h2] at h1
    exact ⟨a, e1, h1⟩
theorem pc_maxL : PureC K (rMax K) gMaxL := fun c s Hf H vs os Q sub h q => by
  cases os with
  | nil => exact q.elim
  | cons o os =>
    cases os with
    | cons _ _ => exact q.elim
    | nil =>
      obtain ⟨v, e, h1⟩ := rep1 h
      subst e
      cases ei : (items o).bind intsOf with
      | none => simp only [gMaxL, ei] at q; exact q.elim
      | some ns =>
        cases ns with
        | nil => simp only [gMaxL, ei] at q; exact q.elim
        | cons x xs =>
          simp only [gMaxL, ei] at q
          obtain ⟨a, e1, h2⟩ := ints_items sub h1 ei
          subst e1
          refine ⟨a, x :: xs, rfl, h2, by simp, fun m hm hle => ?_⟩
          have e : m = maxL x xs := by
            obtain ⟨k1, k2⟩ := maxL_ge xs x
            have k3 := hle _ (maxL_mem xs x)
            rcases List.mem_cons.mp hm with h | h
            · subst h; omega
            · have := k2 m h; omega
          rw [e]
          exact postE_fz sub q rfl
end DL
namespace DL
open PySem L2
abbrev I (i : Int) : O := .fz (.int i)
abbrev VI (i : Int) : S := .vl true (.fz (.int i))
abbrev iL (xs : List Int) : List O := xs.map fun i => .fz (.int i)
section
variable {r r' : Env} {f g : FE} {F G : FS} {ft ft2 : Env → Res Bool}
@[simp] theorem res_ok {α β : Type} (a : α) (k : α → Res β) : (Res.ok a).bind k = k a := (rfl)
@[simp] theorem res_exc {α β : Type} (e : Ec) (k : α → Res β) : (Res.exc e).bind k = .exc e := (rfl)
@[simp] theorem res_bad {α β : Type} (k : α → Res β) : (Res.bad : Res α).bind k = .bad := (rfl)
@[simp] theorem see_fz (w : Bool) (d : D) : see w (.fz d) = .nw (.fz d) := (rfl)
@[simp] theorem see_ls (os : List O) : see true (.ls os) = .vw (.ls os) := (rfl)
@[simp] theorem see_lsB (os : List O) : see false (.ls os) = .bw (.ls os) := (rfl)
@[simp] theorem ra_nw (o : O) : (R.nw o).a = .fz (er o) := (rfl)
@[simp] theorem ra_vw (o : O) : (R.vw o).a = o := (rfl)
@[simp] theorem ra_bw (o : O) : (R.bw o).a = o := (rfl)
@[simp] theorem er_fz (d : D) : er (.fz d) = d := (rfl)
@[simp] theorem put_nwT (o : O) : put true (.nw o) = some (.vl true o) := (rfl)
@[simp] theorem put_nwF (o : O) : put false (.nw o) = some (.vl true (.fz (er o))) := (rfl)
@[simp] theorem put_bw (w : Bool) (o : O) : put w (.bw o) = some (.vl false o) := by cases w <;> rfl
@[simp] theorem eC_ev (d : D) : eC d r = .ok (.nw (.fz d)) := (rfl)
@[simp] theorem fzR_ev (d : D) : fzR d = .ok (.nw (.fz d)) := (rfl)
theorem eVar_of {i : Nat} {w : Bool} {o : O} (h : r[i]? = some (.vl w o)) : eVar i r = .ok (see w o) := by simp only [eVar, h]
@[simp] theorem eOp_ev (h : O → O → Res R) : eOp h f g r = (f r).bind fun x => (g r).bind fun y => h x.a y.a := (rfl)
@[simp] theorem eUn_ev (h : O → Res R) : eUn h f r = (f r).bind fun x => h x.a := (rfl)
@[simp] theorem tOf_ev : tOf f r = (f r).bind toB := (rfl)
@[simp] theorem toB_ev (b : Bool) : toB (.nw (.fz (.bl b))) = .ok b := (rfl)
@[simp] theorem gAdd_ev (i j : Int) : gAddA (.fz (.int i)) (.fz (.int j)) = .ok (.nw (.fz (.int (i + j)))) := (rfl)
@[simp] theorem gSub_ev (i j : Int) : gSub (.fz (.int i)) (.fz (.int j)) = .ok (.nw (.fz (.int (i - j)))) := (rfl)
theorem gMul_ev {i j : Int} (h : i.natAbs.log2 + j.natAbs.log2 < 100000000) : gMulA (.fz (.int i)) (.fz (.int j)) = .ok (.nw (.fz (.int (i * j)))) := by
  show (if mulOk i j = true then fzR (.int (i * j)) else .bad) = _
  rw [if_pos (show mulOk i j = true from decide_eq_true h)]; rfl
theorem gDiv_ev {i j : Int} (h : j ≠ 0) (h2 : j.natAbs.log2 < 9000) : gDiv (.fz (.int i)) (.fz (.int j)) = .ok (.nw (.fz (.int (i.fdiv j)))) := by
  show (if divOk i j = true then fzR (.int (i.fdiv j)) else .bad) = _
  rw [if_pos (show divOk i j = true from decide_eq_true ⟨h, h2⟩)]; rfl
theorem gMod_ev {i j : Int} (h : j ≠ 0) : gMod (.fz (.int i)) (.fz (.int j)) = .ok (.nw (.fz (.int (i.fmod j)))) := by
  show (if modOk i j = true then fzR (.int (i.fmod j)) else .bad) = _
  rw [if_pos (show modOk i j = true from decide_eq_true h)]; rfl
@[simp] theorem gLt_ev (i j : Int) : gLt (.fz (.int i)) (.fz (.int j)) = .ok (.nw (.fz (.bl (decide (i < j))))) := (rfl)
@[simp] theorem gLe_ev (i j : Int) : gLe (.fz (.int i)) (.fz (.int j)) = .ok (.nw (.fz (.bl (decide (i ≤ j))))) := (rfl)
@[simp] theorem gGt_ev (i j : Int) : gGt (.fz (.int i)) (.fz (.int j)) = .ok (.nw (.fz (.bl (decide (j < i))))) := (rfl)
@[simp] theorem gGe_ev (i j : Int) : gGe (.fz (.int i)) (.fz (.int j)) = .ok (.nw (.fz (.bl (decide (j ≤ i))))) := (rfl)
@[simp] theorem gEq_ev (i j : Int) : gEq (.fz (.int i)) (.fz (.int j)) = .ok (.nw (.fz (.bl (decide (i = j))))) := (rfl)
@[simp] theorem gNe_ev (i j : Int) : gNe (.fz (.int i)) (.fz (.int j)) = .ok (.nw (.fz (.bl (!decide (i = j))))) := (rfl)
@[simp] theorem gNeg_ev (i : Int) : gNeg (.fz (.int i)) = .ok (.nw (.fz (.int (-i)))) := (rfl)
@[simp] theorem aNil_ev : aNil r = .ok [] := (rfl)
@[simp] theorem aCons_ev (fs : Env → Res (List O)) : aCons f fs r = (f r).bind fun x => (fs r).bind fun xs => .ok (x.a :: xs) := (rfl)
@[simp] theorem eCall_ev (M : List O → Res O) (fs : Env → Res (List O)) : eCall M fs r = (fs r).bind fun os => (M os).bind fun o => .ok (.nw o) := (rfl)
@[simp] theorem eB_ev (h : List O → Res R) (fs : Env → Res (List O)) : eB h fs r = (fs r).bind h := (rfl)
@[simp] theorem gAbs_ev (i : Int) : gAbs [.fz (.int i)] = .ok (.nw (.fz (.int (if i < 0 then -i else i)))) := (rfl)
@[simp] theorem gMax_ev (i j : Int) : gMax2 [.fz (.int i), .fz (.int j)] = .ok (.nw (.fz (.int (if j > i then j else i)))) := (rfl)
@[simp] theorem gMin_ev (i j : Int) : gMin2 [.fz (.int i), .fz (.int j)] = .ok (.nw (.fz (.int (if j < i then j else i)))) := (rfl)
@[simp] theorem sSeq_ev : sSeq F G r = (match F r with | .nx r' => G r' | o => o) := (rfl)
@[simp] theorem sNil_ev : sNil r = .nx r := (rfl)
@[simp] theorem sSet_ev (i : Nat) (w : Bool) : sSet i w f r = (match f r with | .ok x => setS r i (put w x) | .exc e => .exc e r | .bad => .bad) := (rfl)
@[simp] theorem setS_ev (i : Nat) (y : S) : setS r i (some y) = if i < r.length then .nx (r.set i y) else .bad := (rfl)
@[simp] theorem sRet_ev : sRet f r = (match f r with | .ok x => retR x | .exc e => .exc e r | .bad => .bad) := (rfl)
@[simp] theorem retR_ev (o : O) : retR (.nw o) = .ret o := (rfl)
@[simp] theorem sIf_ev : sIf ft F G r = (match ft r with | .ok b => if b then F r else G r | .exc e => .exc e r | .bad => .bad) := (rfl)
@[simp] theorem tAnd_ev : tAndD ft ft2 r = (ft r).bind fun b => if b then ft2 r else .ok false := (rfl)
@[simp] theorem tOr_ev : tOrD ft ft2 r = (ft r).bind fun b => if b then .ok true else ft2 r := (rfl)
@[simp] theorem tNot_ev : tNotD ft r = (ft r).bind fun b => .ok (!b) := (rfl)
@[simp] theorem tYes_ev : tYesD r = .ok true := (rfl)
end
section
variable {fg : FG} {F : FS} {ft : Env → Res Bool} {f : FE} {r r' r1 : Env} {n : Nat}
theorem forL_cons {x : R} {xs : List R} (h : fg x r = some r1) (h2 : F r1 = .nx r') : forL fg F (x :: xs) r = forL fg F xs r' := by simp [forL, h, h2]
theorem forL_inv {its : List R} (P : Nat → Env → Prop) (h0 : P 0 r) (step : ∀ (i : Nat) x r, its[i]? = some x → P i r → ∃ r1 r', fg x r = some r1 ∧ F r1 = .nx r' ∧ P (i + 1) r') : ∃ r', forL fg F its r = .nx r' ∧ P its.length r' := by
  have go : ∀ (l : List R) (i : Nat) (r : Env), (∀ (j : Nat) x, l[j]? = some x → its[i + j]? = some x) → P i r → ∃ r', forL fg F l r = .nx r' ∧ P (i + l.length) r' := by
    intro l
    induction l with
    | nil => intro i r _ p; exact ⟨r, rfl, p⟩
    | cons x l ih =>
      intro i r hl p
      obtain ⟨r1, r2, e1, e2, p2⟩ := step i x r (by simpa using hl 0 x rfl) p
      obtain ⟨r3, e3, p3⟩ := ih (i + 1) r2 (fun j y hy => by have := hl (j + 1) y (by simpa using hy); rw [show i + 1 + j = i + (j + 1) by omega]; exact this) p2
      exact ⟨r3, by rw [forL_cons e1 e2]; exact e3, by rw [List.length_cons, show i + (l.length + 1) = i + 1 + l.length by omega]; exact p3⟩
  obtain ⟨r', e, p⟩ := go its 0 r (fun j x h => by simpa using h) h0
  exact ⟨r', e, by simpa using p⟩
end
@[simp] theorem gN_ev (i : Nat) (o : O) (r : Env) : gN i (.nw o) r = if i < r.length then some (r.set i (.vl true (.fz (er o)))) else none := (rfl)
theorem ers_iL (xs : List Int) : ers (iL xs) = xs.map .int := by rw [ers_eq, List.map_map]; rfl
@[simp] theorem er_ls (os : List O) : er (.ls os) = .lst (ers os) := (rfl)
theorem allFz_iL (xs : List Int) : allFz (iL xs) = true := by induction xs with
  | nil => rfl
  | cons x xs ih => exact ih
@[simp] theorem items_ls (os : List O) : items (.ls os) = some os := (rfl)
@[simp] theorem items_lst_ev (ds : List D) : items (.fz (.lst ds)) = some (ds.map .fz) := (rfl)
@[simp] theorem items_scr (ns : List Int) : items (.fz (.scr ns)) = some (iL ns) := (rfl)
theorem items_int (xs : List Int) : items (.fz (.lst (xs.map .int))) = some (iL xs) := by simp [iL]
@[simp] theorem gLen_ls (os : List O) : gLen [.ls os] = .ok (.nw (.fz (.int os.length))) := (rfl)
theorem lsR_ev {os : List O} (h : allFz os = true) (h2 : os.length ≤ 100000) : lsR os = .ok (.nw (.ls os)) := by
  unfold lsR
  rw [if_pos h2, if_pos h]
@[simp] theorem pNone_ev (r : Env) : pNone r = .ok none := (rfl)
@[simp] theorem eIsi_ev (T : Ty) (f : FE) (r : Env) : eIsi T f r = (f r).bind fun x => match tyO x.a with | some t => fzR (.bl (isT t T)) | none => .bad := (rfl)
@[simp] theorem iRng_ev (g : List O → Res (List R)) (fs : Env → Res (List O)) (r : Env) : iRng g fs r = (fs r).bind g := (rfl)
@[simp] theorem sFor_ev (fi : Env → Res (List R)) (fg : FG) (F : FS) (r : Env) : sFor fi fg F r = (match fi r with | .ok its => forL fg F its r | .exc e => .exc e r | .bad => .bad) := (rfl)
theorem atI_ok {α : Type} {xs : List α} {k : Int} {v : α} (h0 : 0 ≤ k) (h : xs[k.toNat]? = some v) : atI xs k = some v := by
  have hj : k.toNat < xs.length := (List.getElem?_eq_some_iff.mp h).1
  have e : ixN xs.length k = some k.toNat := by unfold ixN; rw [if_pos h0, if_pos (by omega)]
  unfold atI
  rw [e]; exact h
theorem gDiv_pos {i j : Int} (h : 0 < j) (h2 : j < 1073741824) : gDiv (.fz (.int i)) (.fz (.int j)) = .ok (.nw (.fz (.int (i.fdiv j)))) := by
  refine gDiv_ev (by omega) ?_
  have e : j.natAbs < 2 ^ 30 := by omega
  have := PySem.Flt.log2_lt_of (by decide : 0 < 30) e
  omega
theorem gMul_lt {i j : Int} (a b : Nat) (ha : i.natAbs < 2 ^ a) (hb : j.natAbs < 2 ^ b) (h0 : 0 < a) (h1 : 0 < b) (h : a + b ≤ 100000000) : gMulA (.fz (.int i)) (.fz (.int j)) = .ok (.nw (.fz (.int (i * j)))) := by
  refine gMul_ev ?_
  have x := PySem.Flt.log2_lt_of h0 ha
  have y := PySem.Flt.log2_lt_of h1 hb
  omega
section
variable {F G : FS} {r r' : Env} {o : Out} {ft : Env → Res Bool} {fg : FG} {fi : Env → Res (List R)} {its : List R} {f : FE} {x : R} {y : S}
theorem seq_go (h : F r = .nx r') (h2 : G r' = o) : sSeq F G r = o := by simp [h, h2]
theorem seq_ret {z : O} (h : F r = .ret z) : sSeq F G r = .ret z := by simp [h]
theorem if_t (h : ft r = .ok true) (h2 : F r = o) : sIf ft F G r = o := by simp [h, h2]
theorem if_f (h : ft r = .ok false) (h2 : G r = o) : sIf ft F G r = o := by simp [h, h2]
theorem for_go (h : fi r = .ok its) (h2 : forL fg F its r = o) : sFor fi fg F r = o := by simp [h, h2]
theorem set_go {i : Nat} {w : Bool} (h : f r = .ok x) (h2 : put w x = some y) (h3 : i < r.length) : sSet i w f r = .nx (r.set i y) := by simp [h, h2, h3]
theorem ret_go {z : O} (h : f r = .ok (.nw z)) : sRet f r = .ret z := by simp [h]
theorem run_ret {n : Nat} {os : List O} {z : O} (h : F (startE n os) = .ret z) : runF n F os = .ok z := by simp [runF, h]
theorem run_exc {n : Nat} {os : List O} {e : Ec} (h : F (startE n os) = .exc e r') : runF n F os = .exc e := by simp [runF, h]
end
theorem rng1_ok {n : Int} (h : 0 ≤ n) (h2 : n < 2 ^ 62) : rng1 [.fz (.int n)] = .ok (rngL 0 n.toNat) := by
  show (if small62 n = true then Res.ok (rngL 0 n.toNat) else .bad) = _
  rw [if_pos (show small62 n = true from decide_eq_true ⟨by omega, h2⟩)]
theorem rng2_ok {a b : Int} (h : -(2 ^ 62) ≤ a) (h2 : a < 2 ^ 62) (h3 : -(2 ^ 62) ≤ b) (h4 : b < 2 ^ 62) : rng2 [.fz (.int a), .fz (.int b)] = .ok (rngL a (b - a).toNat) := by
  show (if (small62 a && small62 b) = true then Res.ok (rngL a (b - a).toNat) else .bad) = _
  rw [if_pos (show (small62 a && small62 b) = true by rw [Bool.and_eq_true]; exact ⟨decide_eq_true ⟨h, h2⟩, decide_eq_true ⟨h3, h4⟩⟩)]
@[simp] theorem iL_length (xs : List Int) : (iL xs).length = xs.length := by simp [iL]
theorem iL_get {xs : List Int} {i : Nat} (h : i < xs.length) : (iL xs)[i]? = some (.fz (.int xs[i])) := by simp [iL, h]
section
variable {f g : FE} {r : Env} {o p : O} {k : Int} {d : D}
theorem ix_nw (h1 : f r = .ok (.nw o)) (h2 : g r = .ok (.nw (.fz (.int k)))) (h : ixO (.fz (er o)) k = some (.fz d)) : eIx f g r = .ok (.nw (.fz d)) := by simp [eIx, h1, h2, h]
theorem forL_two {fg : FG} {F : FS} {x y : R} {r1 r2 r3 r4 : Env} (h1 : fg x r = some r1) (h2 : F r1 = .nx r2) (h3 : fg y r2 = some r3) (h4 : F r3 = .nx r4) : forL fg F [x, y] r = .nx r4 := by
  rw [forL_cons h1 h2, forL_cons h3 h4]; rfl
end
section
variable {F G : FS} {r r' : Env} {o : Out} {f : FE} {e : Ec} {tab : List (Str × Bool)} {i : Nat}
@[simp] theorem sUse_ev (k : R → Env → Out) : sUse f k r = (match f r with | .ok x => k x r | .exc e => .exc e r | .bad => .bad) := (rfl)
@[simp] theorem sDrop_ev : sDrop f r = (match f r with | .ok _ => .nx r | .exc e => .exc e r | .bad => .bad) := (rfl)
@[simp] theorem sRaise_ev (x : Str) : sRaise x r = .exc ⟨x, []⟩ r := (rfl)
@[simp] theorem offS_nx : offS i (.nx r) = .nx (r.set i .un) := (rfl)
@[simp] theorem offS_ret {z : O} : offS i (.ret z) = .ret z := (rfl)
@[simp] theorem lookup_self (x : Str) (b : Bool) (t : List (Str × Bool)) : List.lookup x ((x, b) :: t) = some b := by simp [List.lookup]
end
theorem ix_scr {f g : FE} {r : Env} {ns : List Int} {i : Nat} {k : Int} (h1 : f r = .ok (.nw (.fz (.scr ns)))) (h2 : g r = .ok (.nw (I k))) (hk : k = (i : Int)) (h : i < ns.length) : eIx f g r = .ok (.nw (I ns[i])) := by
  have e : ixO (.fz (.scr ns)) k = some (I ns[i]) := by
    show atI (iL ns) k = _
    refine atI_ok (by omega) ?_
    rw [show k.toNat = i by omega]; exact iL_get h
  simp [eIx, h1, h2, e]
@[simp] theorem gLen_scr (ns : List Int) : gLen [.fz (.scr ns)] = .ok (.nw (I ns.length)) := by
  show (match (items (.fz (.scr ns))).map List.length with | some n => fzR (.int n) | none => .bad) = _
  simp
theorem tOf_ok {f : FE} {r : Env} {b : Bool} (h : f r = .ok (.nw (.fz (.bl b)))) : tOf f r = .ok b := by simp [h]
theorem tNot_ok {ft : Env → Res Bool} {r : Env} {b : Bool} (h : ft r = .ok b) : tNotD ft r = .ok (!b) := by simp [h]
theorem call_ok {M : List O → Res O} {fs : Env → Res (List O)} {r : Env} {os : List O} {o : O} (h : fs r = .ok os) (h2 : M os = .ok o) : eCall M fs r = .ok (.nw o) := by simp [h, h2]
theorem asgT_go {fg : FG} {f : FE} {r r1 : Env} {x : R} (h : f r = .ok x) (h2 : fg x.z r = some r1) : sAsgT fg f r = .nx r1 := by
  show (match f r with | .ok x => (match fg x.z r with | some r1 => Out.nx r1 | none => .bad) | .exc e => .exc e r | .bad => .bad) = _
  rw [h]; simp only [h2]
end DL
namespace DL
open PySem L2
section
variable {X : Cx}
theorem call_intB : CallR X (.type "int") (fun xs H Q => ∃ b : Bool, xs = [.bl b] ∧ Q (.int (if b then 1 else 0)) H) := by
  intro pins s σ H xs us Q I r h
  obtain ⟨b, rfl, q⟩ := h
  obtain ⟨u, rfl, rfl⟩ := vals1 r
  exact call_int_bool ⟨.int (if b then 1 else 0), H, I.tok _, ⟨_, rfl⟩, q⟩
end
section
variable {K : PySem.W.Frag}
def gIntB : List O → Res R
  | [.fz (.bl b)] => fzR (.int (if b then 1 else 0))
  | _ => .bad
theorem pc_intB : PureC K (fun xs H Q => ∃ b : Bool, xs = [.bl b] ∧ Q (.int (if b then 1 else 0)) H) gIntB := fun c s Hf H vs os Q sub h q => by
  cases os with
  | nil => exact q.elim
  | cons o os =>
    cases os with
    | cons _ _ =>
      cases o with
      | ls _ => exact q.elim
      | tp _ => exact q.elim
      | ob _ _ _ => exact q.elim
      | dt _ _ => exact q.elim
      | dk _ _ => exact q.elim
      | gh _ _ _ => exact q.elim
      | fz d => cases d <;> exact q.elim
    | nil =>
      obtain ⟨v, e, h1⟩ := rep1 h
      subst e
      cases o with
      | ls _ => exact q.elim
      | tp _ => exact q.elim
      | ob _ _ _ => exact q.elim
      | dt _ _ => exact q.elim
      | dk _ _ => exact q.elim
      | gh _ _ _ => exact q.elim
      | fz d =>
        cases d with
        | bl b =>
          have h1' : v = .bl b := h1
          subst h1'
          exact ⟨b, rfl, postE_fz sub q rfl⟩
        | _ => exact q.elim
end
@[simp] theorem gIntB_ev (b : Bool) : gIntB [.fz (.bl b)] = .ok (.nw (.fz (.int (if b then 1 else 0)))) := (rfl)
end DL
namespace DL
open PySem L2
variable {c : Cn} {X : Cx} {a b e : Expr} {es : List Expr} {f g fa fb : FE} {pos : Pos} {fs : Env → Res (List O)} {K : PySem.W.Frag} {H0 H H' Hf Hf' : Hp} {F G : FS} {st : Stmt} {sts : List Stmt} {ft : Env → Res Bool}
theorem RepOs.at : ∀ {os : List O} {vs : List V} {L : List Addr} {j : Nat} {o : O}, RepOs K Hf H os vs L → os[j]? = some o → ∃ v L1 M L2, vs[j]? = some v ∧ L = L1 ++ M ++ L2 ∧ RepO K Hf H o v M ∧
    ∀ (Hf' H' : Hp) (o' : O) (M' : List Addr), Same Hf Hf' → (∀ a ∈ L1 ++ L2, ∀ u, H a = some u → H' a = some u) → RepO K Hf' H' o' v M' → RepOs K Hf' H' (os.set j o') vs (L1 ++ M' ++ L2)
  | [], _, _, _, _, _, e => by simp at e
  | z :: r, _, L, 0, o, h, e => by
    obtain ⟨v, t, L1, L2, e1, e2, h1, h2⟩ := h
    subst e1 e2
    have e3 : z = o := by simpa using e
    subst e3
    refine ⟨v, [], L1, L2, rfl, rfl, h1, fun Hf' H' o' M' f k q => ?_⟩
    exact ⟨v, t, M', L2, rfl, rfl, q, RepOs.mono f r t L2 (fun a ha => k a (by simpa using ha)) h2⟩
  | z :: r, _, L, j + 1, o, h, e => by
    obtain ⟨v, t, L1, L2, e1, e2, h1, h2⟩ := h
    subst e1 e2
    obtain ⟨v2, A, M, B, f1, f2, f3, f4⟩ := RepOs.at (j := j) (o := o) h2 (by simpa using e)
    subst f2
    refine ⟨v2, L1 ++ A, M, B, by simpa using f1, by simp [List.append_assoc], f3, fun Hf' H' o' M' f k q => ?_⟩
    refine ⟨v, t, L1, A ++ M' ++ B, rfl, by simp [List.append_assoc], RepO.mono f z v L1 (fun a ha => k a (by simp [ha])) h1, f4 Hf' H' o' M' f (fun a ha => k a ?_) q⟩
    simp only [List.mem_append] at ha ⊢
    rcases ha with ha | ha
    · exact .inl (.inr ha)
    · exact .inr ha
def sIx (g : FE) (kk : Int → Env → Out) : FS := sUse g fun y r => match y.a with
  | .fz (.int k) => kk k r
  | _ => .bad
end DL
namespace DL
open PySem L2
variable {c : Cn} {X : Cx} {a b e : Expr} {es : List Expr} {f g fa fb : FE} {pos : Pos} {fs : Env → Res (List O)} {K : PySem.W.Frag} {H0 H H' Hf Hf' : Hp} {F G : FS} {st : Stmt} {sts : List Stmt} {ft : Env → Res Bool}
end DL
namespace DL
open PySem L2
variable {c : Cn} {X : Cx} {a b e : Expr} {es : List Expr} {f g fa fb : FE} {pos : Pos} {fs : Env → Res (List O)} {K : PySem.W.Frag} {H0 H H' Hf Hf' : Hp} {F G : FS} {st : Stmt} {sts : List Stmt} {ft : Env → Res Bool}
def frz (o : O) : O := .fz (er o)
mutual
def noTp : O → Bool
  | .fz _ => true
  | .ls os => noTps os
  | .tp _ => false
  | .ob _ _ _ => false
  | .dt _ _ => true
  | .dk _ _ => true
  | .gh _ _ _ => false
def noTps : List O → Bool
  | [] => true
  | o :: os => noTp o && noTps os
end
@[simp] theorem noTps_nil : noTps [] = true := (rfl)
@[simp] theorem noTps_cons (o : O) (os : List O) : noTps (o :: os) = (noTp o && noTps os) := (rfl)
@[simp] theorem noTp_fz (d : D) : noTp (.fz d) = true := (rfl)
@[simp] theorem noTp_ls (os : List O) : noTp (.ls os) = noTps os := (rfl)
@[simp] theorem noTps_map {α : Type} (f : α → D) (xs : List α) : noTps (xs.map fun x => O.fz (f x)) = true := by
  induction xs with
  | nil => rfl
  | cons x xs ih => simp [ih]
@[simp] theorem noTps_map2 (xs : List D) : noTps (xs.map O.fz) = true := noTps_map id xs
@[simp] theorem frz_fz (d : D) : frz (.fz d) = .fz d := (rfl)
def PostAO (c : Cn) (K : PySem.W.Frag) (s : St) (Hf H : Hp) (Q : List V → Hp → Prop) : Res (List O) → Prop
  | .ok os => ∀ vs Hf' H' L, Ext Hf H Hf' H' → RepOs K Hf' H' os vs L → Nw H Hf' H' L → Q vs H'
  | .exc e => PostX c K s Hf H e
  | .bad => False
def SoAO (c : Cn) (K : PySem.W.Frag) (t : TA) (f : Env → Res (List O)) : Prop := ∀ r s Hf H L, c.SR K r s Hf H L → ∀ Q, PostAO c K s Hf H Q (f r) → t s H Q
structure DAO (c : Cn) (X : Cx) (e : List Expr) (f : Env → Res (List O)) : Prop where
  ex : ∃ t, PA X e t ∧ SoAO c X.K t f
end DL
namespace DL
open PySem L2
variable {c : Cn} {X : Cx} {a b e : Expr} {es : List Expr} {f g fa fb : FE} {pos : Pos} {fs : Env → Res (List O)} {K : PySem.W.Frag} {H0 H H' Hf Hf' : Hp} {F G : FS} {st : Stmt} {sts : List Stmt} {ft : Env → Res Bool}
def PostAR (c : Cn) (K : PySem.W.Frag) (s : St) (L : List Addr) (Hf H : Hp) (Q : List V → Hp → Prop) : Res (List O) → Prop
  | .ok os => ∀ vs Hf' H' M, Ext Hf H Hf' H' → RepOs K Hf' H' os vs M → M.Nodup → (∀ a ∈ M, (a ∈ L ∨ H a = none) ∧ Hf' a = none ∧ c.H0 a = none ∧ H' a ≠ none) → Q vs H'
  | .exc e => PostX c K s Hf H e
  | .bad => False
def SoAR (c : Cn) (K : PySem.W.Frag) (t : TA) (f : Env → Res (List O)) : Prop := ∀ r s Hf H L, c.SR K r s Hf H L → ∀ Q, PostAR c K s L Hf H Q (f r) → t s H Q
structure DAR (c : Cn) (X : Cx) (e : List Expr) (f : Env → Res (List O)) : Prop where
  ex : ∃ t, PA X e t ∧ SoAR c X.K t f
end DL
namespace DL
open PySem L2
section
variable {prog : Program} {w : World} {A : Around} {R : Result → Shared → Prop} {I : Addr} {fp wr : List Addr} {n : Nat} {P : Nat → Value → Prop} {St : Nat → Heap → Prop} {E : Value → Shared → Prop} {s : Shared}
theorem call_kw {id : String} {b : Builtin} {args : Args} {Q : Value → Shared → Prop} (hk : builtinKind id = none) (hp : plainId id = true) (hb : entryFor table id = some b) (ha : argsOk id args)
    (hc : wpAny (model prog w) A.in1 (b args) (fun fin s' => match fin with
      | .done f => (match (Except.ok f : Result) with | .ok (.ret v) => Q v s' | .ok _ => False | .error e => E e s')
      | .again c' => c'.quiet = true ∧ codeAny (model prog w) A c' (fun r s' => match r with | .ok (.ret v) => Q v s' | .ok _ => False | .error e => E e s') s') E s) :
    wpAny (model prog w) A (call (.builtin id) args.pos args.kw) Q E s := by
  refine wpAny_call (codeAny_call_builtin hp hb ?_)
  simp only [checkBuiltinCall, hk]
  cases hsig : Manifest.signature? id with
  | none => exact wpAny_pure hc
  | some sig =>
    simp only [argsOk, hsig] at ha
    have h2 : Bind.checkArgs id sig args = pure () := ha
    show wpAny _ A.in1 (Bind.checkArgs id sig args) _ _ s
    rw [h2]; exact wpAny_pure hc
theorem loopD (kw : List (Str × Value)) (W : Walks prog w A.in1 I fp wr n P St) (bt : Nat → Nat → Bool) (hcmp : CmpOf prog w A.in1 .Gt P bt) (S : Addr) (hSf : S ∉ fp) (k : Nat) :
    ∀ (j : Nat) (s : Shared) (vb : Value) (c : Nat), n - (j + 1) = k → j + 1 ≤ n → St (j + 1) s.heap → P (argBest bt j) vb → s.heap.get? S = some { cls := .type "list", dict := none, data := .seq #[vb, vb] c, slots := #[] } →
    (∀ v h' tk, P (argBest bt (n - 1)) v → (∀ b o, b ∉ wr → b ≠ S → s.heap.get? b = some o → h'.get? b = some o) → R (.ok (.ret v)) { s with heap := h', toks := tk }) →
    codeAny (model prog w) A (.builtin "max.loop" ⟨[.ref I, .none, .ref S], kw⟩) R s := by
  have hSw : S ∉ wr := fun h => hSf (W.sub _ h)
  have nm : (toString "max" ++ toString ".loop" : String) = "max.loop" := by decide
  induction k with
  | zero =>
    intro j s vb c hk hj hst hPb hS hR
    obtain rfl : j + 1 = n := by omega
    refine codeAny_builtin F.entry_max_loop ?_
    rw [Around.under_plainId F.plain_max_loop _]
    show wpAny _ A.in1 (seqItems? (.ref S) >>= _) _ _ s
    refine wpAny_bind (wpAny_seqItems hS rfl ?_)
    show wpAny _ A.in1 (tryCatch (pyNext (.ref I)) _ >>= _) _ _ s
    refine wpAny_bind (wpAny_tryCatch (W.done s _ _ hst fun h' tk hk' => ?_))
    show wpAny _ A.in1 (updateSeq S (fun _ => #[]) >>= _) _ _ _
    refine wpAny_bind (wpAny_updateSeq (hk' S _ hSw hS) rfl (wpAny_bind (wpAny_letGo (wpAny_pure ?_))))
    exact hR vb _ tk hPb fun b o hbw hbS e => (Heap.get?_update_other _ _ (Ne.symm hbS)).trans (hk' b o hbw e)
  | succ k ih =>
    intro j s vb c hk hj hst hPb hS hR
    have hlt : j + 1 < n := by omega
    refine codeAny_builtin F.entry_max_loop ?_
    rw [Around.under_plainId F.plain_max_loop _]
    show wpAny _ A.in1 (seqItems? (.ref S) >>= _) _ _ s
    refine wpAny_bind (wpAny_seqItems hS rfl ?_)
    show wpAny _ A.in1 (tryCatch (pyNext (.ref I)) _ >>= _) _ _ s
    refine wpAny_bind (wpAny_tryCatch (W.item (j + 1) s _ _ hlt hst fun v h' tk hP hst' hk' => ?_))
    have hS' := hk' S _ hSw hS
    show wpAny _ A.in1 (tryCatch (holding [v, v] (richCompare .Gt v vb >>= _)) _ >>= _) _ _ _
    refine wpAny_bind (wpAny_tryCatch (wpAny_holding (wpAny_bind (hcmp (j + 1) (argBest bt j) v vb _ _ _ hP hPb ?_))))
    refine wpAny_bind (wpAny_holding (wpAny_truthy_bool (wpAny_bind (wpAny_letGo (wpAny_pure ?_)))))
    cases hb : bt (j + 1) (argBest bt j) with
    | true =>
      simp only [if_true]
      refine wpAny_bind (wpAny_updateSeq hS' rfl (wpAny_bind (wpAny_letGo ?_)))
      rw [nm]
      refine wpAny_pure ⟨plainId_quiet F.plain_max_loop _, ih (j + 1) _ v _ (by omega) hlt (W.frame _ _ _ hst' fun b hbf o e => ?_) (by simp only [argBest, hb, if_true]; exact hP) (Heap.get?_update_self _ hS' rfl) fun v' h'' tk'' hP' hk'' => ?_⟩
      · exact (Heap.get?_update_other _ _ (fun h : S = b => hSf (by rw [h]; exact hbf))).trans e
      · exact hR v' h'' tk'' hP' fun b o hbw hbS e => hk'' b o hbw hbS ((Heap.get?_update_other _ _ (Ne.symm hbS)).trans (hk' b o hbw e))
    | false =>
      simp only [Bool.false_eq_true, if_false]
      refine wpAny_bind (wpAny_letGo ?_)
      rw [nm]
      refine wpAny_pure ⟨plainId_quiet F.plain_max_loop _, ih (j + 1) _ vb c (by omega) hlt hst' (by simp only [argBest, hb, Bool.false_eq_true, if_false]; exact hPb) hS' fun v' h'' tk'' hP' hk'' => ?_⟩
      exact hR v' h'' tk'' hP' fun b o hbw hbS e => hk'' b o hbw hbS (hk' b o hbw e)
theorem firstD (nmd : Str) (d : Value) (W : Walks prog w A.in1 I fp wr n P St) (bt : Nat → Nat → Bool) (hcmp : CmpOf prog w A.in1 .Gt P bt) (S : Addr) (hSf : S ∉ fp) {c : Nat} (hst : St 0 s.heap)
    (hS : s.heap.get? S = some { cls := .type "list", dict := none, data := .seq #[] c, slots := #[] })
    (h0 : n = 0 → ∀ h' tk, (∀ b o, b ∉ wr → s.heap.get? b = some o → h'.get? b = some o) → R (.ok (.ret d)) { s with heap := h', toks := tk })
    (hR : 0 < n → ∀ v h' tk, P (argBest bt (n - 1)) v → (∀ b o, b ∉ wr → b ≠ S → s.heap.get? b = some o → h'.get? b = some o) → R (.ok (.ret v)) { s with heap := h', toks := tk }) :
    codeAny (model prog w) A (.builtin "max.loop" ⟨[.ref I, .none, .ref S], [(nmd, d)]⟩) R s := by
  have hSw : S ∉ wr := fun h => hSf (W.sub _ h)
  have nm : (toString "max" ++ toString ".loop" : String) = "max.loop" := by decide
  refine codeAny_builtin F.entry_max_loop ?_
  rw [Around.under_plainId F.plain_max_loop _]
  show wpAny _ A.in1 (seqItems? (.ref S) >>= _) _ _ s
  refine wpAny_bind (wpAny_seqItems hS rfl ?_)
  show wpAny _ A.in1 (tryCatch (pyNext (.ref I)) _ >>= _) _ _ s
  by_cases hn : n = 0
  · subst hn
    refine wpAny_bind (wpAny_tryCatch (W.done s _ _ hst fun h' tk hk' => ?_))
    exact wpAny_pure (M := model prog w) (E := fun e s' => R (.error e) s') (h0 rfl h' tk hk')
  · have hn' : 0 < n := Nat.pos_of_ne_zero hn
    refine wpAny_bind (wpAny_tryCatch (W.item 0 s _ _ hn' hst fun v h' tk hP hst' hk' => ?_))
    have hS' := hk' S _ hSw hS
    show wpAny _ A.in1 (updateSeq S (fun _ => #[v, v]) >>= _) _ _ _
    refine wpAny_bind (wpAny_updateSeq hS' rfl ?_)
    rw [nm]
    refine wpAny_pure ⟨plainId_quiet F.plain_max_loop _, loopD _ W bt hcmp S hSf _ 0 _ v _ rfl hn' (W.frame _ _ _ hst' fun b hbf o e => ?_) hP (Heap.get?_update_self _ hS' rfl) fun v' h'' tk'' hP' hk'' => ?_⟩
    · exact (Heap.get?_update_other _ _ (fun h : S = b => hSf (by rw [h]; exact hbf))).trans e
    · exact hR hn' v' h'' tk'' hP' fun b o hbw hbS e => hk'' b o hbw hbS ((Heap.get?_update_other _ _ (Ne.symm hbS)).trans (hk' b o hbw e))
theorem args_maxD (a d : Value) : argsOk "max" ⟨[a], [(Str.ofString "default", d)]⟩ := by unfold argsOk; kernel_rfl
theorem maxD_raw {l : Addr} {its : List Value} {ns : List Int} {d : Value} {Q : Value → Shared → Prop} (hh : A.handled = none) (hl : s.heap.IsList l its.toArray) (hi : PyProof.Rows.IntsAre its ns)
    (h0 : ns = [] → ∀ h' tk, (∀ b o, s.heap.get? b = some o → h'.get? b = some o) → Q d { s with heap := h', toks := tk })
    (h1 : 0 < ns.length → ∀ h' tk M t', (∀ b o, s.heap.get? b = some o → h'.get? b = some o) → M ∈ ns → (∀ a, a ∈ ns → a ≤ M) → Q (.int M t') { s with heap := h', toks := tk }) :
    wpAny (model prog w) A (call (.builtin "max") [.ref l] [(Str.ofString "default", d)]) Q E s := by
  obtain ⟨xs, e⟩ := hi.allInts.items
  have hn : numsOf (intItems xs).toList = ns := by rw [← e]; exact hi.numsOf
  rw [nums_intItems] at hn
  subst hn
  rw [e] at hl
  have nm : (toString "max" ++ toString ".loop" : String) = "max.loop" := by decide
  refine call_kw (args := ⟨[.ref l], [(Str.ofString "default", d)]⟩) F.kind_max F.plain_max F.entry_max (args_maxD _ _) ?_
  show wpAny _ A.in1 (Builtin.Builtins.bindParams "max" ["key", "default"] 0 ⟨[], [(Str.ofString "default", d)]⟩ >>= _) _ _ s
  refine wpAny_bind (wpAny_of_eq (show Builtin.Builtins.bindParams "max" ["key", "default"] 0 ⟨[], [(Str.ofString "default", d)]⟩ = pure [none, some d] from rfl) ?_)
  refine wpAny_bind (wpAny_pure ?_)
  refine wpAny_bind (iter_intList hl fun s₂ e st hfp hlI => ?_)
  subst e
  refine wpAny_bind (wpAny_newObj_type ?_)
  rw [nm]
  have W := Walks.list (prog := prog) (w := w) (A := A.in1) hh _ l hlI (intItems xs)
  refine wpAny_pure ⟨plainId_quiet F.plain_max_loop _, firstD _ d W _ (CmpOf.ints_gt (numAt xs) (fun _ _ => intItems_at)) _ (fun hm => Nat.lt_irrefl _ (hfp _ hm)) (W.frame _ _ _ st fun b _ o e => Heap.get?_push_of_some _ e) (Heap.get?_push_size _ rfl) (fun hz h' tk hk => ?_) fun hz v h' tk hP hk => ?_⟩
  · refine h0 ?_ h' tk (old_kept fun b o hb e => hk b o hb (Heap.get?_push_of_some _ e))
    have : xs.size = 0 := by simpa [intItems] using hz
    simp [Array.size_eq_zero_iff.mp this]
  · have hsz : 0 < xs.size := by simpa [intItems] using hz
    have hP' : (intItems xs)[argBest (fun i j => decide (numAt xs i > numAt xs j)) (xs.size - 1)]? = some v := by simpa [intItems] using hP
    obtain ⟨t, rfl⟩ := intItems_at hP'
    obtain ⟨g1, g2⟩ := argBest_gt (numAt xs) (xs.size - 1)
    refine h1 (by rw [List.length_map, Array.length_toList]; exact hsz) h' tk _ t (old_kept fun b o hb e => hk b o hb (Nat.ne_of_lt (Heap.lt_size e)) (Heap.get?_push_of_some _ e)) ?_ fun a ha => ?_
    · rw [numAt_eq]; exact PySem.getD_mem (by rw [List.length_map, Array.length_toList]; omega)
    · obtain ⟨j, hj, rfl⟩ := mem_getD ha
      rw [List.length_map, Array.length_toList] at hj
      rw [← numAt_eq]; exact g2 j (by omega)
end
section
variable {X : Cx}
def rMaxD (K : PySem.W.Frag) (d : Int) : List V → List V → Hp → VK → Prop := fun vs zs H Q => ∃ (a : Addr) (ns : List Int), vs = [V.ref a] ∧ zs = [.int d] ∧ SqL K H a (ns.map V.int) ∧ ∀ m, (ns = [] → m = d) → (0 < ns.length → m ∈ ns ∧ ∀ y, y ∈ ns → y ≤ m) → Q (.int m) H
theorem cr_maxD {d : Int} (hc : X.calm = true) : CallRK X (.builtin "max") [Str.ofString "default"] (rMaxD X.K d) := by
  intro pins s σ H vs zs us ws Q I r rz h
  obtain ⟨a, ns, rfl, rfl, hs, q⟩ := h
  obtain rfl := Vals.ref1 r
  obtain ⟨w1, rfl, t1, rfl⟩ := vals1 rz
  obtain ⟨its, rv, hl, _⟩ := I.list hs
  refine maxD_raw (I.ok.hd hc) hl.isList rv.ints (fun hz h' tk hk => ?_) fun hz h' tk m t' hk h1 h2 => ?_
  · exact ⟨.int d, H, I.kept hk, ⟨_, rfl⟩, q d (fun _ => rfl) (fun hp => by rw [hz] at hp; simp at hp)⟩
  · exact ⟨.int m, H, I.kept hk, ⟨_, rfl⟩, q m (fun hn => by rw [hn] at hz; simp at hz) (fun _ => ⟨h1, h2⟩)⟩
end
section
variable {c : Cn} {X : Cx} {a b e : Expr} {es : List Expr} {f g fa fb : FE} {pos : Pos} {K : PySem.W.Frag} {H0 H H' Hf Hf' : Hp}
def maxD (d : Int) : List Int → Int
  | [] => d
  | x :: xs => maxL x xs
end
end DL
namespace DL
open PySem L2
variable {c : Cn} {X : Cx} {a b e : Expr} {es : List Expr} {f g fa fb : FE} {pos : Pos} {fs : Env → Res (List O)} {K : PySem.W.Frag} {H0 H H' Hf Hf' : Hp} {F G : FS} {st : Stmt} {sts : List Stmt} {ft : Env → Res Bool}
def rlD (rule : List (List Int)) : D := .lst (rule.map fun p => .lst (p.map .int))
def fsD (first : List (Int × Int)) : D := .lst (first.map fun p => .tup [.int p.1, .int p.2])
theorem ints_reps : ∀ p : List Int, Reps K H (p.map .int) (p.map V.int)
  | [] => rfl
  | n :: p => ⟨_, _, rfl, rfl, ints_reps p⟩
theorem polys_rep {rule : List (List Int)} {v : V} (h : PolysAt H rule v) : Rep K H (rlD rule) v := by
  obtain ⟨a, vs, e, h1, h2⟩ := h
  refine ⟨a, vs, e, h1, ?_⟩
  clear h1
  induction h2 with
  | nil => rfl
  | cons q r ih =>
    obtain ⟨b, e1, g1⟩ := q
    exact ⟨_, _, rfl, ⟨b, _, e1, g1, ints_reps _⟩, ih⟩
theorem frs_reps {first : List (Int × Int)} {vs : List V} (h2 : Paired (FrAt H) first vs) : Reps K H (first.map fun p => .tup [.int p.1, .int p.2]) vs := by
  induction h2 with
  | nil => rfl
  | cons q r ih =>
    obtain ⟨b, e1, g1⟩ := q
    exact ⟨_, _, rfl, ⟨b, _, e1, g1, ⟨_, _, rfl, rfl, _, _, rfl, rfl, rfl⟩⟩, ih⟩
theorem frs_rep {first : List (Int × Int)} {v : V} (h : FrsAt H first v) : Rep K H (fsD first) v := by
  obtain ⟨a, vs, e, h1, h2⟩ := h
  exact ⟨a, vs, e, h1, frs_reps h2⟩
def FldF (K : PySem.W.Frag) (tab : List Str) (f : Str) : Prop := ∀ c ∈ tab, Cls K (He.ga K c) ∧ NoAttr K (He.ga K c) f
def fldR (tab : List Str) (f : Str) : R → Res R
  | .nw (.fz (.obj c ns ds)) => if c ∈ tab then (match (ns.zip ds).lookup f with | some d => fzR d | none => .bad) else .bad
  | .nw (.fz (.row rule first)) => if ("Row" : Str) ∈ tab then (if f = "rule" then fzR (rlD rule) else if f = "first" then fzR (fsD first) else .bad) else .bad
  | .vw (.ob c ns os) => if c ∈ tab then (match (ns.zip os).lookup f with | some o => .ok (see true o) | none => .bad) else .bad
  | .bw (.ob c ns os) => if c ∈ tab then (match (ns.zip os).lookup f with | some o => .ok (see false o) | none => .bad) else .bad
  | _ => .bad
def eFld (tab : List Str) (f : Str) (fo : FE) : FE := fun r => (fo r).bind (fldR tab f)
theorem lookup_reps : ∀ {ns : List Str} {ds : List D} {vs : List V} {f : Str} {d : D}, Reps K H ds vs → (ns.zip ds).lookup f = some d → ∃ v, (ns.zip vs).lookup f = some v ∧ Rep K H d v
  | [], _, _, _, _, _, e => by simp at e
  | _ :: _, [], _, _, _, _, e => by simp at e
  | n :: ns, d0 :: ds, _, f, d, h, e => by
    obtain ⟨v, r, e1, h1, h2⟩ := h
    subst e1
    rw [List.zip_cons_cons, List.lookup_cons] at e ⊢
    by_cases hn : (f == n) = true
    · rw [hn] at e ⊢
      cases e
      exact ⟨v, rfl, h1⟩
    · have hn' : (f == n) = false := by simpa using hn
      rw [hn'] at e ⊢
      exact lookup_reps h2 e
theorem lookup_repVs : ∀ {ns : List Str} {os : List O} {vs : List V} {f : Str} {o : O}, RepVs K Hf H os vs → (ns.zip os).lookup f = some o → ∃ v, (ns.zip vs).lookup f = some v ∧ RepV K Hf H o v
  | [], _, _, _, _, _, e => by simp at e
  | _ :: _, [], _, _, _, _, e => by simp at e
  | n :: ns, d0 :: ds, _, f, d, h, e => by
    obtain ⟨v, r, e1, h1, h2⟩ := h
    subst e1
    rw [List.zip_cons_cons, List.lookup_cons] at e ⊢
    by_cases hn : (f == n) = true
    · rw [hn] at e ⊢
      cases e
      exact ⟨v, rfl, h1⟩
    · have hn' : (f == n) = false := by simpa using hn
      rw [hn'] at e ⊢
      exact lookup_repVs h2 e
theorem see_res {w : Bool} {o : O} {v : V} {H0 : Hp} (h : RepV K Hf (if w then H else H0) o v) : ResR K H0 Hf H (see w o) v [] := by
  cases o with
  | fz d => exact ⟨h, rfl⟩
  | ls _ => cases w <;> exact ⟨h, rfl⟩
  | tp _ => cases w <;> exact ⟨h, rfl⟩
  | ob _ _ _ => cases w <;> exact ⟨h, rfl⟩
  | dt _ _ => cases w <;> exact ⟨h, rfl⟩
  | dk _ _ => cases w <;> exact ⟨h, rfl⟩
  | gh _ _ _ => cases w <;> exact ⟨h, rfl⟩
theorem de_fld {tab : List Str} {fn : Str} (hT : FldF X.K tab fn) (h : DE c X a f) (hb : attributeBase a fn X.env (eval a X.env) = eval a X.env := by rfl) : DE c X (.Attribute a fn pos) (eFld tab fn f) := by
  obtain ⟨t, p, s⟩ := h.ex
  refine ⟨tFld X.K t fn, pe_fld p hb, fun r s' Hf H L sr Q q => ?_⟩
  refine s.run sr pstE q fun x v Hf1 H1 x1 sr1 a1 q1 => ?_
  have view : ∀ (w : Bool) (cc : Str) (ns : List Str) (os : List O), RepV X.K Hf1 (if w then H1 else c.H0) (.ob cc ns os) v →
      PostE c X.K s' Hf1 H1 Q (if cc ∈ tab then (match (ns.zip os).lookup fn with | some o => .ok (see w o) | none => .bad) else .bad) →
      ∃ a C dx fs v', v = V.ref a ∧ H1 a = some (.ins C dx fs) ∧ Cls X.K C ∧ NoAttr X.K C fn ∧ fs.lookup fn = some v' ∧ Q v' H1 := fun w cc ns os h1 q1 => by
    by_cases hc : cc ∈ tab
    · rw [if_pos hc] at q1
      obtain ⟨a, dx, vs, e1, k1, k2, k3, k4, _⟩ := h1
      cases el : (ns.zip os).lookup fn with
      | none => rw [el] at q1; exact q1.elim
      | some o =>
        rw [el] at q1
        obtain ⟨v', l', r'⟩ := lookup_repVs k4 el
        obtain ⟨f1, f2⟩ := hT cc hc
        have k1' : H1 a = some (.ins (He.ga X.K cc) dx (ns.zip vs)) := by
          cases w with
          | true => exact k1
          | false => exact sr1.same0.ins k1
        exact ⟨a, _, dx, _, v', e1, k1', f1, f2, l', q1 v' Hf1 H1 [] (Ext.refl sr1.sub) (see_res r') nw_nil⟩
    · rw [if_neg hc] at q1; exact q1.elim
  cases x with
  | vw o =>
    cases o with
    | ob cc ns os => exact view true cc ns os a1 q1
    | _ => exact q1.elim
  | bw o =>
    cases o with
    | ob cc ns os => exact view false cc ns os a1 q1
    | _ => exact q1.elim
  | nw o =>
    cases o with
    | fz d =>
      cases d with
      | obj cc ns ds =>
        simp only [fldR] at q1
        by_cases hc : cc ∈ tab
        · rw [if_pos hc] at q1
          obtain ⟨a, dx, vs, e1, k1, k2, k3, k4⟩ := a1
          cases el : (ns.zip ds).lookup fn with
          | none => rw [el] at q1; exact q1.elim
          | some d =>
            rw [el] at q1
            obtain ⟨v', l', r'⟩ := lookup_reps k4 el
            obtain ⟨f1, f2⟩ := hT cc hc
            exact ⟨a, _, dx, _, v', e1, sr1.sub _ _ k1, f1, f2, l', postE_fz sr1.sub q1 r'⟩
        · rw [if_neg hc] at q1; exact q1.elim
      | row rule first =>
        simp only [fldR] at q1
        by_cases hc : ("Row" : Str) ∈ tab
        · rw [if_pos hc] at q1
          obtain ⟨a, e1, dx, rv, fv, k, k1, k2, k3, k4⟩ := a1
          obtain ⟨f1, f2⟩ := hT _ hc
          by_cases hr : fn = "rule"
          · rw [if_pos hr] at q1
            subst hr
            exact ⟨a, _, dx, _, rv, e1, sr1.sub _ _ k1, f1, f2, rfl, postE_fz sr1.sub q1 (polys_rep k3)⟩
          · rw [if_neg hr] at q1
            by_cases hf : fn = "first"
            · rw [if_pos hf] at q1
              subst hf
              exact ⟨a, _, dx, _, fv, e1, sr1.sub _ _ k1, f1, f2, rfl, postE_fz sr1.sub q1 (frs_rep k4)⟩
            · rw [if_neg hf] at q1; exact q1.elim
        · rw [if_neg hc] at q1; exact q1.elim
      | _ => exact q1.elim
    | _ => exact q1.elim
theorem pe_any {ι : Type} {t : ι → TE} {e : Expr} (h : ∀ i, PE X e (t i)) : PE X e (fun σ H Q => ∃ i, t i σ H Q) := ⟨fun pins s σ H Q I ⟨i, q⟩ => (h i).run pins s σ H Q I q⟩
section
variable {CX : CXT} {k : Nat} {fA C : Addr} {fd : FuncData} {ps : List Str} {sp : Sp} {E : St → XK} {x m : Str} {p apos : Pos} {o : Expr} {ta : TE} {t : TA}
def tMethA (C : Addr) (m : Str) (sp : Sp) (E : St → XK) (ta : TE) (t : TA) : TE := fun σ H Q => ta σ H fun x H1 => ∃ a dx fs, x = .ref a ∧ H1 a = some (.ins C dx fs) ∧ fs.lookup m = none ∧ t σ H1 fun vs H2 => sp (x :: vs) H2 Q (E σ)
theorem pe_methA {pl : Sem Bool} (he : PE X o ta) (cl : Cls X.K C) (hm : Meth X.K C m fA) (F : FnOk X.prog X.w X.K X.mg X.base CX k fA fd ps sp) (hr : Room k X.A) (hb : Binds X.K fd ps []) (hx : ∀ σ, PassesAt CX X σ (E σ)) (ha : PA X (e :: es) t)
    (hst : starEach (e :: es) X.env = (false, eval e X.env) :: starEach es X.env := by rfl) (hpl : (backTo pos (starEach es X.env)).any (·.1) = false := by rfl)
    (ht : eval (.Call (.Attribute o m apos) (e :: es) [] pos) X.env = (do
      let ov ← eval o X.env
      standAt apos.atName
      let (f, first) ← holding [ov] (getMethod ov m pl)
      callWith pos f first (backTo pos (starEach (e :: es) X.env)) (backToKw pos (keywordEach [] X.env))) := by rfl) :
    PE X (.Call (.Attribute o m apos) (e :: es) [] pos) (tMethA C m sp E ta t) := by
  refine ⟨fun pins s σ H Q I h => ?_⟩
  refine PySem.W.methodCall_KW (pl := pl) (thn (he.run pins s σ H _ I h) fun u s1 ⟨x, H1, I1, rx, a, dx, fs, ex, ea, l, q⟩ => ?_) ht
  subst ex
  obtain rfl : u = Value.ref a := rx
  refine getmeth_ok I1 ea cl hm l ?_
  refine PySem.W.callWith_K (first := [.ref a]) (h₀ := X.base) I.ok.mod.kin hm.kp (thn (ha.run pos pins s1 σ H1 _ I1 q) fun us s2 ⟨vs, H2, I2, r, q2⟩ => ⟨I2.kIn, ?_⟩) hst hpl
  exact run_fnS (us := .ref a :: us) (vs := .ref a :: vs) F hr hb (hx σ) I2 (.cons rfl r) q2
theorem pe_methA0 {pl : Sem Bool} (he : PE X o ta) (cl : Cls X.K C) (hm : Meth X.K C m fA) (F : FnOk X.prog X.w X.K X.mg X.base CX k fA fd ps sp) (hr : Room k X.A) (hb : Binds X.K fd ps []) (hx : ∀ σ, PassesAt CX X σ (E σ))
    (ht : eval (.Call (.Attribute o m apos) [] [] pos) X.env = (do
      let ov ← eval o X.env
      standAt apos.atName
      let (f, first) ← holding [ov] (getMethod ov m pl)
      callWith pos f first (backTo pos (starEach [] X.env)) (backToKw pos (keywordEach [] X.env))) := by rfl) :
    PE X (.Call (.Attribute o m apos) [] [] pos) (tMethA C m sp E ta tNil) := by
  refine ⟨fun pins s σ H Q I h => ?_⟩
  refine PySem.W.methodCall_KW (pl := pl) (thn (he.run pins s σ H _ I h) fun u s1 ⟨x, H1, I1, rx, a, dx, fs, ex, ea, l, q⟩ => ?_) ht
  subst ex
  obtain rfl : u = Value.ref a := rx
  refine getmeth_ok I1 ea cl hm l ?_
  exact PySem.W.callWith_K0 (first := [.ref a]) I1.kIn hm.kp (run_fnS (us := [.ref a]) (vs := [.ref a]) F hr hb (hx σ) I1 (.cons rfl .nil) q)
end
structure DefM (P : Program) (w : World) (K : PySem.W.Frag) (mg : Str → Option Value) (base : Heap) (c m : Str) (k n : Nat) (F : List O → Res O) : Prop where
  ex : ∃ f fd ps, FnOk P w K mg base (L2.CX P w) k f fd ps (spD K n F) ∧ Cls K (He.ga K c) ∧ Meth K (He.ga K c) m f ∧ Binds K fd ps [] ∧ ps.length = n
def clsO : O → Option (Str × List Str)
  | .fz (.obj c ns _) => some (c, ns)
  | .fz (.row _ _) => some ("Row", rowNs)
  | .ob c ns _ => some (c, ns)
  | _ => none
theorem clsO_ok {o : O} {v : V} {cc : Str} {ns : List Str} (s : Same Hf H) (h : RepV K Hf H o v) (e : clsO o = some (cc, ns)) : ∃ a dx fs, v = .ref a ∧ H a = some (.ins (He.ga K cc) dx fs) ∧ fs.map (·.1) = ns := by
  cases o with
  | ob c' ns' os =>
    cases e
    obtain ⟨a, dx, vs, e1, k1, k2, k3, k4, _⟩ := h
    exact ⟨a, dx, _, e1, k1, zip_fst (by rw [k3, RepVs.length k4])⟩
  | fz d =>
    cases d with
    | obj c' ns' ds =>
      cases e
      obtain ⟨a, dx, vs, e1, k1, k2, k3, k4⟩ := h
      exact ⟨a, dx, _, e1, s _ _ k1, zip_fst (by rw [k3, Reps.length k4])⟩
    | row rule first =>
      cases e
      obtain ⟨a, e1, dx, rv, fv, k, k1, _⟩ := h
      exact ⟨a, dx, _, e1, s _ _ k1, rfl⟩
    | _ => cases e
  | _ => cases e
def eMeth (tab : List (Str × (List O → Res O))) (m : Str) (fo : FE) (fs : Env → Res (List O)) : FE := fun r => match fo r with
  | .ok x => (match clsO x.a with
    | some (c, ns) => if m ∈ ns then .bad else (match tab.lookup c with
      | some M => (fs r).bind fun os => (M (x.a :: os)).bind fun o => .ok (.nw o)
      | none => .bad)
    | none => .bad)
  | _ => .bad
theorem lookup_none_of {m : Str} : ∀ {fs : List (Str × V)}, m ∉ fs.map (·.1) → fs.lookup m = none
  | [], _ => rfl
  | (g, x) :: r, h => by
    rw [List.lookup_cons]
    have hn : (m == g) = false := by
      simp only [List.map_cons, List.mem_cons, not_or] at h
      simpa using h.1
    rw [hn]
    exact lookup_none_of (fs := r) fun z => h (List.mem_cons_of_mem _ z)
theorem lookup_memF {β : Type} {c : Str} {M : β} : ∀ {tab : List (Str × β)}, tab.lookup c = some M → (c, M) ∈ tab
  | [], h => by cases h
  | (g, x) :: r, h => by
    rw [List.lookup_cons] at h
    by_cases hn : (c == g) = true
    · rw [hn] at h
      cases h
      rw [eq_of_beq hn]
      exact List.mem_cons_self
    · have hn' : (c == g) = false := by simpa using hn
      rw [hn'] at h
      exact List.mem_cons_of_mem _ (lookup_memF h)
theorem post_call {M : List O → Res O} {n : Nat} {vs : List V} {os : List O} {s : St} {Q : VK} {r : Env} {L : List Addr} (sr : c.SR K r s Hf H L) (hr : RepVs K Hf H os vs) (hl : os.length = n) (q : PostE c K s Hf H Q ((M os).bind fun o => .ok (.nw o))) :
    spD K n M vs H Q (WE c.W s) := by
  refine ⟨Hf, os, sr.sub, sr.rows, hr, hl, ?_⟩
  cases e1 : M os with
  | bad => rw [e1] at q; exact q.elim
  | exc e' =>
    rw [e1] at q
    exact fun cls d Hf2 H2 x2 h2 => q cls d Hf2 H2 x2 h2
  | ok o =>
    rw [e1] at q
    exact fun v Hf2 H2 L2 x2 h2 n2 => q v Hf2 H2 L2 x2 h2 n2
theorem SoE.runO {t : TE} {r : Env} {s : St} {L : List Addr} {x : R} (h : SoE c K t f) (sr : c.SR K r s Hf H L) (e : f r = .ok x) {Q : VK}
    (hq : ∀ v Hf1 H1, Ext Hf H Hf1 H1 → c.SR K r s Hf1 H1 L → ArgR K c.H0 Hf1 H1 x v → Q v H1) : t s H Q := by
  refine h r s Hf H L sr Q ?_
  rw [e]
  intro v Hf1 H1 L1 x1 q n
  have x2 := x1.add n q.nq
  exact hq v _ H1 x2 (sr.mono x2) (q.argR n)
section
variable {k n : Nat} {m : Str} {tab : List (Str × (List O → Res O))} {apos : Pos} {o : Expr} {fo : FE}
theorem de_meth {pl : Sem Bool} (hT : ∀ p ∈ tab, ∃ j, j ≤ k ∧ DefM X.prog X.w X.K X.mg X.base p.1 m j n p.2) (B : Bk c X k) (ho : DE c X o fo) (h : DA c X (e :: es) fs)
    (hlen : ∀ r os, fs r = .ok os → os.length + 1 = n)
    (hst : starEach (e :: es) X.env = (false, eval e X.env) :: starEach es X.env := by rfl) (hpl : (backTo pos (starEach es X.env)).any (·.1) = false := by rfl)
    (ht : eval (.Call (.Attribute o m apos) (e :: es) [] pos) X.env = (do
      let ov ← eval o X.env
      standAt apos.atName
      let (f, first) ← holding [ov] (getMethod ov m pl)
      callWith pos f first (backTo pos (starEach (e :: es) X.env)) (backToKw pos (keywordEach [] X.env))) := by rfl) :
    DE c X (.Call (.Attribute o m apos) (e :: es) [] pos) (eMeth tab m fo fs) := by
  obtain ⟨t, p, s⟩ := ho.ex
  obtain ⟨t2, p2, s2⟩ := h.ex
  refine ⟨_, pe_any (ι := {q : Str × (List O → Res O) // q ∈ tab}) (t := fun i => tMethA (He.ga X.K i.1.1) m (spD X.K n i.1.2) (WE c.W) t t2) (fun i => ?_), fun r s' Hf H L sr Q q => ?_⟩
  · obtain ⟨j, hj, D⟩ := hT i.1 i.2
    obtain ⟨fA, fd, ps, Fo, cl, hm, hb, hn⟩ := D.ex
    exact pe_methA p cl hm Fo (B.hr.mono hj) hb (fun σ => passAt B.tk σ) p2 hst hpl ht
  · unfold eMeth at q
    cases e0 : fo r with
    | bad => rw [e0] at q; exact q.elim
    | exc e' => rw [e0] at q; exact q.elim
    | ok x =>
      rw [e0] at q
      dsimp only at q
      cases ec : clsO x.a with
      | none => rw [ec] at q; exact q.elim
      | some cn =>
        obtain ⟨cc, ns⟩ := cn
        rw [ec] at q
        dsimp only at q
        by_cases hm : m ∈ ns
        · rw [if_pos hm] at q; exact q.elim
        · rw [if_neg hm] at q
          cases el : tab.lookup cc with
          | none => rw [el] at q; exact q.elim
          | some M =>
            rw [el] at q
            dsimp only at q
            refine ⟨⟨(cc, M), lookup_memF el⟩, ?_⟩
            refine s.runO sr e0 fun v Hf1 H1 x1 sr1 a1 => ?_
            obtain ⟨a, dx, fs', ev, k1, k2⟩ := clsO_ok sr1.sub (a1.a sr1.same0) ec
            refine ⟨a, dx, fs', ev, k1, lookup_none_of (by rw [k2]; exact hm), ?_⟩
            have q1 := pstE.mono _ _ _ _ _ x1 q
            refine s2 r s' Hf1 H1 L sr1 _ ?_
            cases e2 : fs r with
            | bad => rw [e2] at q1; exact q1.elim
            | exc e' => rw [e2] at q1; exact q1
            | ok os =>
              rw [e2] at q1
              intro vs Hf2 H2 x2 a2
              refine post_call (sr1.mono x2) (os := x.a :: os) ⟨v, vs, rfl, (a1.mono x2.fsame x2.same).a (sr1.mono x2).same0, a2⟩ (by rw [List.length_cons]; exact hlen r os e2) (pstE.mono _ _ _ _ _ x2 q1)
theorem de_meth0 {pl : Sem Bool} (hT : ∀ p ∈ tab, ∃ j, j ≤ k ∧ DefM X.prog X.w X.K X.mg X.base p.1 m j 1 p.2) (B : Bk c X k) (ho : DE c X o fo)
    (ht : eval (.Call (.Attribute o m apos) [] [] pos) X.env = (do
      let ov ← eval o X.env
      standAt apos.atName
      let (f, first) ← holding [ov] (getMethod ov m pl)
      callWith pos f first (backTo pos (starEach [] X.env)) (backToKw pos (keywordEach [] X.env))) := by rfl) :
    DE c X (.Call (.Attribute o m apos) [] [] pos) (eMeth tab m fo aNil) := by
  obtain ⟨t, p, s⟩ := ho.ex
  refine ⟨_, pe_any (ι := {q : Str × (List O → Res O) // q ∈ tab}) (t := fun i => tMethA (He.ga X.K i.1.1) m (spD X.K 1 i.1.2) (WE c.W) t tNil) (fun i => ?_), fun r s' Hf H L sr Q q => ?_⟩
  · obtain ⟨j, hj, D⟩ := hT i.1 i.2
    obtain ⟨fA, fd, ps, Fo, cl, hm, hb, hn⟩ := D.ex
    exact pe_methA0 p cl hm Fo (B.hr.mono hj) hb (fun σ => passAt B.tk σ) ht
  · unfold eMeth at q
    cases e0 : fo r with
    | bad => rw [e0] at q; exact q.elim
    | exc e' => rw [e0] at q; exact q.elim
    | ok x =>
      rw [e0] at q
      dsimp only at q
      cases ec : clsO x.a with
      | none => rw [ec] at q; exact q.elim
      | some cn =>
        obtain ⟨cc, ns⟩ := cn
        rw [ec] at q
        dsimp only at q
        by_cases hm : m ∈ ns
        · rw [if_pos hm] at q; exact q.elim
        · rw [if_neg hm] at q
          cases el : tab.lookup cc with
          | none => rw [el] at q; exact q.elim
          | some M =>
            rw [el] at q
            dsimp only at q
            refine ⟨⟨(cc, M), lookup_memF el⟩, ?_⟩
            refine s.runO sr e0 fun v Hf1 H1 x1 sr1 a1 => ?_
            obtain ⟨a, dx, fs', ev, k1, k2⟩ := clsO_ok sr1.sub (a1.a sr1.same0) ec
            refine ⟨a, dx, fs', ev, k1, lookup_none_of (by rw [k2]; exact hm), ?_⟩
            have q1 := pstE.mono _ _ _ _ _ x1 q
            exact post_call sr1 (os := [x.a]) ⟨v, [], rfl, a1.a sr1.same0, rfl⟩ rfl q1
end
theorem SR.put {r : Env} {s : St} {L : List Addr} {i : Nat} {x : S} (sr : c.SR K r s Hf H L) (e : r[i]? = some x) : ∃ y A M B, s[i]? = some y ∧ L = A ++ M ++ B ∧ SlotR K Hf c.H0 H x y M ∧
    ∀ (a : Addr) (u u' : HO) (x' : S) (M' : List Addr), a ∈ M → H a = some u → (∀ φ : Hk, u ≠ φ.o) → (∀ xs, u ≠ .tup xs) → SlotR K Hf c.H0 (upd H a u') x' y M' → M'.Nodup →
      (∀ b ∈ M', b ∈ M ∨ (b ∉ L ∧ Hf b = none ∧ c.H0 b = none ∧ H b ≠ none)) → c.SR K (r.set i x') s Hf (upd H a u') (A ++ M' ++ B) := by
  obtain ⟨y, A, M, B, h1, h2, h3, h4⟩ := sr.env.at e
  refine ⟨y, A, M, B, h1, h2, h3, fun a u u' x' M' ha hu hn ht hs hnd hM => ?_⟩
  have haL : a ∈ L := by rw [h2]; simp [ha]
  have nd := sr.nd
  rw [h2] at nd
  simp only [List.nodup_append, List.mem_append] at nd
  obtain ⟨⟨n1, n2, d1⟩, n3, d2⟩ := nd
  have out : ∀ b ∈ A ++ B, b ≠ a := fun b hb e => by
    subst e
    rcases List.mem_append.mp hb with hb | hb
    · exact d1 b hb b ha rfl
    · exact d2 b (.inr ha) b hb rfl
  have env' := h4 Hf (upd H a u') x' y M' (Same.refl _) (Tst.up hu ht) (fun b hb w q => by rw [upd_ne (out b hb)]; exact q) hs
  have es : s.set i y = s := by
    obtain ⟨hl, hg⟩ := List.getElem?_eq_some_iff.mp h1
    rw [← hg]; exact List.set_getElem_self hl
  rw [es] at env'
  have ha0 := (sr.fr a haL).2
  have haf := (sr.fr a haL).1
  have inL : ∀ b ∈ A ++ B, b ∈ L := fun b hb => by
    rw [h2]; simp only [List.mem_append] at hb ⊢
    rcases hb with hb | hb <;> simp [hb]
  have notM : ∀ b ∈ A ++ B, b ∉ M' := fun b hb hm => by
    rcases hM b hm with hm | hm
    · rcases List.mem_append.mp hb with hb | hb
      · exact d1 b hb b hm rfl
      · exact d2 b (.inr hm) b hb rfl
    · exact hm.1 (inL b hb)
  refine ⟨⟨?_, sr.ext.fsame, ?_, sr.ext.keep, fun h => (sr.ext.rows h).set hu hn⟩, env', ?_, fun b hb => ?_, fun b hb => ?_, sr.rows.set hu hn⟩
  · exact fun b w q => by rw [upd_ne (ne_of_none q ha0)]; exact sr.ext.same b w q
  · exact fun b w q => by rw [upd_ne (ne_of_none q haf)]; exact sr.ext.sub b w q
  · simp only [List.nodup_append, List.mem_append]
    refine ⟨⟨n1, hnd, fun b hb d hd e => ?_⟩, n3, fun b hb d hd e => ?_⟩
    · subst e; exact notM b (by simp [hb]) hd
    · subst e
      rcases hb with hb | hb
      · exact d2 b (.inl hb) b hd rfl
      · exact notM b (by simp [hd]) hb
  · simp only [List.mem_append] at hb
    rcases hb with (hb | hb) | hb
    · exact sr.fr b (inL b (by simp [hb]))
    · rcases hM b hb with hm | hm
      · exact sr.fr b (by rw [h2]; simp [hm])
      · exact ⟨hm.2.1, hm.2.2.1⟩
    · exact sr.fr b (inL b (by simp [hb]))
  · have ok : H b ≠ none := by
      simp only [List.mem_append] at hb
      rcases hb with (hb | hb) | hb
      · exact sr.ok b (inL b (by simp [hb]))
      · rcases hM b hb with hm | hm
        · exact sr.ok b (by rw [h2]; simp [hm])
        · exact hm.2.2.2
      · exact sr.ok b (inL b (by simp [hb]))
    by_cases hba : b = a
    · subst hba; rw [upd_same]; simp
    · rw [upd_ne hba]; exact ok
theorem putF_new {f : Str} {y : V} : ∀ {ns : List Str} {vs : List V}, ns.length = vs.length → f ∉ ns → putF f y (ns.zip vs) = (ns ++ [f]).zip (vs ++ [y])
  | [], [], _, _ => rfl
  | n :: ns, [], h, _ => by simp at h
  | [], v :: vs, h, _ => by simp at h
  | n :: ns, v :: vs, h, hf => by
    simp only [List.mem_cons, not_or] at hf
    show (if n = f then (n, y) :: ns.zip vs else (n, v) :: putF f y (ns.zip vs)) = _
    rw [if_neg (fun z => hf.1 z.symm), putF_new (by simpa using h) hf.2]
    rfl
def sFldM (tab : List Str) (i : Nat) (fn : Str) (g : FE) : FS := sUse g fun x r => match r[i]? with
  | some (.me a (.ob c ns os)) => (match newO x with
    | some o => if c ∈ tab ∧ fn ∉ ns ∧ ns.length < 500 ∧ ns ++ [fn] ≠ rowNs then .nx (r.set i (.me a (.ob c (ns ++ [fn]) (os ++ [o])))) else .bad
    | none => .bad)
  | _ => .bad
theorem newO_some {x : R} {o : O} (h : newO x = some o) : x = .nw o := by
  cases x with
  | nw o' => cases h; rfl
  | vw _ => cases h
  | bw _ => cases h
theorem ds_fldM {tab : List Str} {i : Nat} {fn : Str} {pos' : Pos} (hT : FldF X.K tab fn) (hv : PE X a (tVar i)) (h : DE c X e g) (hs : swapsWith e (some (.Attribute a fn pos')) pos.line X.env = pure false := by rfl) :
    DS c X (.Assign [.Attribute a fn pos'] e pos) (sFldM tab i fn g) := by
  obtain ⟨t, p, s⟩ := h.ex
  refine ⟨sFld X.K (tVar i) t fn, ps_fld hv p hs, fun r s' Hf H L sr D q => ?_⟩
  refine s.use sr q fun x v Hf1 H1 L1 x1 sr1 a1 n1 q1 => ?_
  cases er1 : r[i]? with
  | none => rw [er1] at q1; exact q1.elim
  | some z =>
    rw [er1] at q1
    cases z with
    | un => exact q1.elim
    | tq _ => exact q1.elim
    | lt _ _ => exact q1.elim
    | fa _ => exact q1.elim
    | vl _ _ => exact q1.elim
    | me am o0 =>
      cases o0 with
      | ob cc ns os =>
        dsimp only at q1
        cases en : newO x with
        | none => rw [en] at q1; exact q1.elim
        | some o =>
          rw [en] at q1
          dsimp only at q1
          by_cases hc : cc ∈ tab ∧ fn ∉ ns ∧ ns.length < 500 ∧ ns ++ [fn] ≠ rowNs
          case neg => rw [if_neg hc] at q1; exact q1.elim
          rw [if_pos hc] at q1
          have ex := newO_some en
          subst ex
          obtain ⟨y, A, M, B, h1, h2, h3, h4⟩ := sr1.put er1
          cases y with
          | none => exact h3.elim
          | some w =>
            obtain ⟨ew, a', dx, vs, M', e1, k1, k2, k3, k4, k5, k6⟩ := h3
            subst ew
            cases e1
            subst k6
            obtain ⟨f1, f2⟩ := hT cc hc.1
            have lv : vs.length = os.length := RepOs.length k4
            refine ⟨_, h1, am, _, dx, _, rfl, k1, f1, f2, by rw [List.length_zip]; omega, ?_⟩
            have nd := sr1.nd
            rw [h2] at nd
            simp only [List.nodup_append, List.mem_append, List.nodup_cons, List.mem_cons, not_or] at nd
            obtain ⟨⟨_, ⟨⟨nad, naM⟩, ndM, nM⟩, _⟩, _, _⟩ := nd
            have inL : ∀ b, b ∈ am :: dx :: M' → b ∈ L := fun b hb => by rw [h2]; simp only [List.mem_append]; exact .inl (.inr hb)
            have L1L : ∀ b ∈ L1, b ∉ L := fun b hb hl => (sr.ok b hl) (n1.fr b hb).1
            have L1a : ∀ b ∈ L1, b ≠ am := fun b hb e => L1L b hb (by rw [e]; exact inL am (by simp))
            have h0 : ∀ b ∈ L1, c.H0 b = none := fun b hb => sr.same0.free (n1.fr b hb).1
            have sr2 := h4 am _ (.ins (He.ga X.K cc) dx (putF fn v (ns.zip vs))) (.me am (.ob cc (ns ++ [fn]) (os ++ [o]))) (am :: dx :: (M' ++ L1)) List.mem_cons_self k1 (Hk.ne rfl) (fun _ z => nomatch z)
              ⟨rfl, am, dx, vs ++ [v], M' ++ L1, rfl, by rw [upd_same, putF_new (by rw [k3, lv]) hc.2.1], by rw [upd_ne (fun z => nad z.symm)]; exact k2, by simp [k3],
                RepOs.append (RepOs.mono (Same.refl _) os vs M' (fun b hb u q => by rw [upd_ne (fun z => naM (by rw [← z]; exact hb))]; exact q) k4) (RepO.mono (Same.refl _) o v L1 (fun b hb u q => by rw [upd_ne (L1a b hb)]; exact q) a1), hc.2.2.2, rfl⟩
              (by
                simp only [List.nodup_cons, List.mem_cons, List.mem_append, not_or, List.nodup_append]
                refine ⟨⟨nad, naM, fun z => L1a am z rfl⟩, ⟨ndM, fun z => L1L dx z (inL dx (by simp))⟩, nM, n1.nd, fun b hb d hd z => ?_⟩
                subst z
                exact L1L b hd (inL b (by simp [hb])))
              (fun b hb => by
                simp only [List.mem_cons, List.mem_append] at hb ⊢
                rcases hb with hb | hb | hb | hb
                · exact .inl (.inl hb)
                · exact .inl (.inr (.inl hb))
                · exact .inl (.inr (.inr hb))
                · exact .inr ⟨L1L b hb, (n1.fr b hb).2.1, h0 b hb, (n1.fr b hb).2.2⟩)
            exact q1 _ _ _ _ (Same.refl _) sr2
      | _ => exact q1.elim
end DL
namespace DL
open PySem L2
variable {c : Cn} {X : Cx} {a b e : Expr} {es : List Expr} {f g fa fb : FE} {pos : Pos} {fs : Env → Res (List O)} {K : PySem.W.Frag} {H0 H H' Hf Hf' : Hp} {F G : FS} {st : Stmt} {sts : List Stmt} {ft : Env → Res Bool}
section
variable {CX : CXT} {k : Nat} {fA C : Addr} {fd : FuncData} {ps : List Str} {sp : Sp} {E : St → XK} {x : Str} {p : Pos} {t : TA}
def tMakeA (C : Addr) (sp : Sp) (E : St → XK) (t : TA) : TE := fun σ H Q => t σ H fun vs H1 => ∀ x dx, H1 x = none → H1 dx = none → dx ≠ x →
  sp (.ref x :: vs) (upd (upd H1 dx (.own x)) x (.ins C dx [])) (fun v H2 => v = .non ∧ Q (.ref x) H2) (E σ)
theorem run_makeA {pins : List (Addr × Obj)} {σ : St} {H : Hp} {s : Shared} {Q : VK} {us : List Value} {vs : List V} (M : Mk X.K C fA) (F : FnOk X.prog X.w X.K X.mg X.base CX k fA fd ps sp) (hr : Room (k + 1) X.A) (hb : Binds X.K fd ps [])
    (hx : PassesAt CX X σ (E σ)) (I : Inv X pins σ H s) (r : Vals vs us)
    (h : ∀ x dx, H x = none → H dx = none → dx ≠ x → sp (.ref x :: vs) (upd (upd H dx (.own x)) x (.ins C dx [])) (fun v H2 => v = .non ∧ Q (.ref x) H2) (E σ)) :
    wpAny (model X.prog X.w) X.A (call (.ref C) us) (EP X pins σ Q) X.xe s := by
  have hq := h (s.heap.objs.size + 1) s.heap.objs.size (I.hok.fresh (Nat.le_succ _)) (I.hok.fresh (Nat.le_refl _)) (Nat.ne_of_lt (Nat.lt_succ_self _))
  have I2 := Inv.made (C := C) I
  have r2 : Vals (V.ref (s.heap.objs.size + 1) :: vs) (Value.ref (s.heap.objs.size + 1) :: us) := .cons rfl r
  have hl : (Value.ref (s.heap.objs.size + 1) :: us).length = ps.length := by
    have e := r2.length
    rw [F.len _ _ _ _ hq] at e
    exact e.symm
  have b := hb _ (Value.ref (s.heap.objs.size + 1) :: us) I2.kIn (by rw [List.append_nil]; exact hl)
  rw [List.append_nil] at b
  refine wpAny_call (make_map (f := fA) I.kIn M.makes M.init (beq_iff_eq.mp M.fn) (codeAny_mono (F.run _ X.stack _ _ ⟨Value.ref (s.heap.objs.size + 1) :: us, []⟩ (Value.ref (s.heap.objs.size + 1) :: us) _ _ (E σ) (hr.make C us [])
    (I2.env0.make C us []) b r2 hq) fun r s' hq' => ?_))
  cases r with
  | error e => exact hx pins _ _ e s' I2 hq'
  | ok fl =>
    cases fl with
    | ret u =>
      obtain ⟨v, H', I3, rv, ev, q3⟩ := I2.after hq'
      subst ev
      exact ⟨rv, ⟨V.ref (s.heap.objs.size + 1), H', I3, rfl, q3⟩⟩
    | next => exact False.elim hq'
    | brk => exact False.elim hq'
    | cont => exact False.elim hq'
theorem pe_makeA (M : Mk X.K C fA) (F : FnOk X.prog X.w X.K X.mg X.base CX k fA fd ps sp) (hr : Room (k + 1) X.A) (hg : Gl X x) (hm : X.mg x = some (.ref C)) (hb : Binds X.K fd ps []) (hx : ∀ σ, PassesAt CX X σ (E σ))
    (ha : PA X (e :: es) t) (hdb : (x == ("__debug__" : Str)) = false := by decide) (he : starEach (e :: es) X.env = (false, eval e X.env) :: starEach es X.env := by rfl) (hpl : (backTo pos (starEach es X.env)).any (·.1) = false := by rfl) :
    PE X (.Call (.Name x p) (e :: es) [] pos) (tMakeA C sp E t) := by
  refine ⟨fun pins s σ H Q I h => ?_⟩
  refine wpAny_Call_Name_kw (ld_glob I hg hm ?_ hdb)
  refine PySem.W.callWith_K (h₀ := X.base) I.ok.mod.kin M.kp (thn (ha.run pos pins s σ H _ I h) fun us s1 ⟨vs, H1, I1, r, q⟩ => ⟨I1.kIn, ?_⟩) he hpl
  exact run_makeA M F hr hb (hx σ) I1 r q
end
def startI (n : Nat) (c : Str) (a : Addr) (os : List O) : Env := S.me a (.ob c [] []) :: startE (n - 1) os
def runI (n : Nat) (c : Str) (F : FS) (a : Addr) : List O → Res O := fun os => match F (startI n c a os) with
  | .nx r => (match r[0]? with
    | some (S.me b o) => if b = a then .ok o else .bad
    | _ => .bad)
  | .exc e _ => .exc e
  | _ => .bad
def spI (K : PySem.W.Frag) (cn : Str) (n : Nat) (F : List O → Res O) : Sp := fun vs H Q E => ∃ (Hf H0 : Hp) (x dx : Addr) (ws : List V) (os : List O), vs = .ref x :: ws ∧ H = upd (upd H0 dx (.own x)) x (.ins (He.ga K cn) dx []) ∧ H0 x = none ∧ H0 dx = none ∧ dx ≠ x ∧
  Same Hf H0 ∧ Rows (tK K) Hf H0 ∧ RepVs K Hf H0 os ws ∧ os.length = n ∧ match F os with
  | .ok o => ∀ Hf' H' L, Ext Hf H0 Hf' H' → RepO K Hf' H' o (.ref x) L → Nw H0 Hf' H' L → Q .non H'
  | .exc e => ∀ cls d Hf' H', Ext Hf H0 Hf' H' → EcR K e cls d Hf' → E cls d H'
  | .bad => False
structure DefI (P : Program) (w : World) (K : PySem.W.Frag) (mg : Str → Option Value) (base : Heap) (x : Str) (k n : Nat) (F : List O → Res O) : Prop where
  ex : ∃ f fd ps, FnOk P w K mg base (L2.CX P w) k f fd ps (spI K x n F) ∧ Mk K (He.ga K x) f ∧ mg x = some (.ref (He.ga K x)) ∧ Binds K fd ps [] ∧ ps.length = n + 1
def eMake (F : List O → Res O) (fs : Env → Res (List O)) : FE := fun r => (fs r).bind fun os => (F os).bind fun o => .ok (.nw o)
theorem de_make {x : Str} {p : Pos} {j k n : Nat} {F : List O → Res O} (G : DefI X.prog X.w X.K X.mg X.base x j n F) (B : Bk c X k) (hj : j + 1 ≤ k) (hg : Gl X x) (h : DA c X (e :: es) fs)
    (hlen : ∀ r os, fs r = .ok os → os.length = n)
    (hdb : (x == ("__debug__" : Str)) = false := by decide) (he : starEach (e :: es) X.env = (false, eval e X.env) :: starEach es X.env := by rfl) (hpl : (backTo pos (starEach es X.env)).any (·.1) = false := by rfl) :
    DE c X (.Call (.Name x p) (e :: es) [] pos) (eMake F fs) := by
  obtain ⟨fA, fd, ps, Fo, mk, hm, hb, hn⟩ := G.ex
  obtain ⟨t, pa, s⟩ := h.ex
  refine ⟨tMakeA (He.ga X.K x) (spI X.K x n F) (WE c.W) t, pe_makeA mk Fo (B.hr.mono hj) hg hm hb (fun σ => passAt B.tk σ) pa hdb he hpl, fun r s' Hf H L sr Q q => ?_⟩
  refine s r s' Hf H L sr _ ?_
  cases e0 : fs r with
  | bad => simp only [eMake, e0, Res.bind] at q; exact q.elim
  | exc e' => simp only [eMake, e0, Res.bind] at q; exact q
  | ok os =>
    simp only [eMake, e0, Res.bind] at q
    intro vs Hf1 H1 x1 a1 xa dx nx nd ne
    refine ⟨Hf1, H1, xa, dx, vs, os, rfl, rfl, nx, nd, ne, x1.sub, x1.rows sr.rows, a1, hlen r os e0, ?_⟩
    cases e1 : F os with
    | bad => rw [e1] at q; exact q.elim
    | exc e' =>
      rw [e1] at q
      exact fun cls d Hf2 H2 x2 h2 => q cls d Hf2 H2 (x1.trans x2) h2
    | ok o =>
      rw [e1] at q
      exact fun Hf2 H2 L2 x2 h2 n2 => ⟨rfl, q _ Hf2 H2 L2 (x1.trans x2) h2 (n2.mono x1.same)⟩
structure DefN (K : PySem.W.Frag) (mg : Str → Option Value) (x : Str) : Prop where
  mks : PySem.W.makesIn K (He.ga K x) = true
  hi : PySem.W.findIn K (.ref (He.ga K x)) "__init__" = some (some (.builtin "object.__init__"))
  kp : PySem.W.keepIn K (.ref (He.ga K x)) = true
  hm : mg x = some (.ref (He.ga K x))
theorem obj_new {cn : Str} {x dx : Addr} (sub : Same Hf H) (nx : H x = none) (nd : H dx = none) (ne : dx ≠ x) : Ext Hf H Hf (upd (upd H dx (.own x)) x (.ins (He.ga K cn) dx [])) ∧
    RepO K Hf (upd (upd H dx (.own x)) x (.ins (He.ga K cn) dx [])) (.ob cn [] []) (.ref x) [x, dx] ∧ Nw H Hf (upd (upd H dx (.own x)) x (.ins (He.ga K cn) dx [])) [x, dx] := by
  have x1 : Ext Hf H Hf (upd H dx (.own x)) := Ext.new sub nd
  have nx' : upd H dx (.own x) x = none := by rw [upd_ne ne.symm]; exact nx
  refine ⟨x1.trans (Ext.new x1.sub nx'), ⟨x, dx, [], [], rfl, upd_same, by rw [upd_ne ne, upd_same], rfl, ⟨rfl, rfl⟩, by decide, rfl⟩, ⟨by simp [ne.symm], fun b hb => ?_⟩⟩
  simp only [List.mem_cons, List.not_mem_nil, or_false] at hb
  rcases hb with rfl | rfl
  · exact ⟨nx, sub_none sub nx, by rw [upd_same]; simp⟩
  · exact ⟨nd, sub_none sub nd, by rw [upd_ne ne, upd_same]; simp⟩
section
variable {P : Program} {w : World} {mg : Str → Option Value} {base : Heap} {x m qual : Str} {params : Arguments} {body : List Stmt} {scope : Scope} {fA : Addr} {fd : FuncData} {N ps : List Str} {k n : Nat}
theorem DefM.ofD (Fn : FunD K x qual params body scope [] [] fA fd) (S : FnScope N ps scope) {cn : Str} (cl : Cls K (He.ga K cn)) (hm : Meth K (He.ga K cn) m fA) (hb : Binds K fd ps []) (hn : ps.length = n) (F : FS)
    (hbody : ∀ (cdv : Value) (A : Around) (outer : List PySem.Env) (s : Shared) (H : Hp) (E : XK) (Hf : Hp), Bk ⟨Hf, H, fun cls d _ H' => E cls d H'⟩ (cxOf (L2.CX P w) P w K mg base N qual scope fA cdv A outer s H E) k →
      DSs ⟨Hf, H, fun cls d _ H' => E cls d H'⟩ (cxOf (L2.CX P w) P w K mg base N qual scope fA cdv A outer s H E) body F) : DefM P w K mg base cn m (k + 1) n (runF N.length F) := by
  refine ⟨fA, fd, ps, ?_, cl, hm, hb, hn⟩
  subst hn
  refine Fn.ok S (fun vs H Q E h => ?_) (fun cdv A outer s H vs Q E hr h => ?_)
  · obtain ⟨Hf, os, _, _, h2, h3, _⟩ := h
    rw [RepVs.length h2, h3]
  · obtain ⟨Hf, os, sub, hro, h2, h3, h4⟩ := h
    have B : Bk ⟨Hf, H, fun cls d _ H' => E cls d H'⟩ (cxOf (L2.CX P w) P w K mg base N qual scope fA cdv A outer s H E) k := ⟨hr, takes_of rfl rfl rfl rfl, passes_of rfl, rfl⟩
    obtain ⟨t, p, so⟩ := (hbody cdv A outer s H E Hf B).ex
    refine ⟨t, p, ?_⟩
    have hl : vs.length = os.length := RepVs.length h2
    have sr : SR K Hf H (startE N.length os) (L2.start N vs) Hf H [] := by
      refine ⟨Ext.refl sub, ?_, List.nodup_nil, (fun _ h => nomatch h), (fun _ h => nomatch h), hro⟩
      unfold startE L2.start
      rw [hl]
      exact env_start h2
    refine so _ _ Hf H [] sr _ ?_
    unfold runF at h4
    cases e : F (startE N.length os) with
    | ret o => rw [e] at h4; exact fun v Hf' H' L _ x q n => h4 v Hf' H' L x q n
    | nx r => rw [e] at h4; exact fun s Hf' H' L f sr' => h4 .non Hf' H' [] sr'.ext ⟨rfl, rfl⟩ nw_nil
    | bk r => rw [e] at h4; exact h4.elim
    | ct r => rw [e] at h4; exact h4.elim
    | exc e' r => rw [e] at h4; exact fun s cls d Hf' H' L _ sr' h => h4 cls d Hf' H' sr'.ext h
    | bad => rw [e] at h4; exact h4.elim
theorem DefM.imp {cn : Str} {F F' : List O → Res O} (D : DefM P w K mg base cn m k n F) (h : ∀ os, os.length = n → F' os = .bad ∨ F' os = F os) : DefM P w K mg base cn m k n F' := by
  obtain ⟨fa, fd, ps, h1, h2⟩ := D.ex
  refine ⟨fa, fd, ps, h1.imp fun vs H Q E q => ?_, h2⟩
  obtain ⟨Hf, os, q1, q0, q2, q3, q4⟩ := q
  refine ⟨Hf, os, q1, q0, q2, q3, ?_⟩
  rcases h os q3 with e | e
  · rw [e] at q4; exact q4.elim
  · rw [← e]; exact q4
theorem DefI.ofD (Fn : FunD K x qual params body scope [] [] fA fd) (S : FnScope N ps scope) {cn : Str} (mk : Mk K (He.ga K cn) fA) (hm : mg cn = some (.ref (He.ga K cn))) (hb : Binds K fd ps []) (hn : ps.length = n + 1) (hN : N.length ≠ 0) (F : FS) (M : List O → Res O)
    (hbody : ∀ (cdv : Value) (A : Around) (outer : List PySem.Env) (s : Shared) (H H0 : Hp) (E : XK) (Hf : Hp), Bk ⟨Hf, H0, fun cls d _ H' => E cls d H'⟩ (cxOf (L2.CX P w) P w K mg base N qual scope fA cdv A outer s H E) k →
      DSs ⟨Hf, H0, fun cls d _ H' => E cls d H'⟩ (cxOf (L2.CX P w) P w K mg base N qual scope fA cdv A outer s H E) body F)
    (himp : ∀ a os, os.length = n → M os = .bad ∨ M os = runI N.length cn F a os) : DefI P w K mg base cn (k + 1) n M := by
  refine ⟨fA, fd, ps, ?_, mk, hm, hb, hn⟩
  refine Fn.ok S (fun vs H Q E h => ?_) (fun cdv A outer s H vs Q E hr h => ?_)
  · obtain ⟨Hf, H0, x, dx, ws, os, ev, _, _, _, _, _, _, h2, h3, _⟩ := h
    rw [ev, List.length_cons, RepVs.length h2, h3, hn]
  · obtain ⟨Hf, H0, x, dx, ws, os, ev, eH, nx, nd, ne, sub, hro, h2, h3, h4⟩ := h
    have B : Bk ⟨Hf, H0, fun cls d _ H' => E cls d H'⟩ (cxOf (L2.CX P w) P w K mg base N qual scope fA cdv A outer s H E) k := ⟨hr, takes_of rfl rfl rfl rfl, passes_of rfl, rfl⟩
    obtain ⟨t, p, so⟩ := (hbody cdv A outer s H H0 E Hf B).ex
    refine ⟨t, p, ?_⟩
    obtain ⟨o1, o2, o3⟩ := obj_new (K := K) (cn := cn) sub nx nd ne
    rw [← eH] at o1 o2 o3
    have hl : ws.length = os.length := RepVs.length h2
    have env1 : EnvR K Hf H0 H (startE (N.length - 1) os) (ws.map some ++ List.replicate (N.length - 1 - ws.length) none) [] := by
      unfold startE
      rw [hl]
      exact env_start h2
    have est : L2.start N vs = some (.ref x) :: (ws.map some ++ List.replicate (N.length - 1 - ws.length) none) := by
      unfold L2.start
      rw [ev]
      simp only [List.map_cons, List.cons_append, List.length_cons]
      rw [show N.length - (ws.length + 1) = N.length - 1 - ws.length by omega]
    have sr : SR K Hf H0 (startI N.length cn x os) (L2.start N vs) Hf H [x, dx] := by
      refine ⟨o1, ?_, o3.nd, fun b hb => ⟨(o3.fr b hb).2.1, (o3.fr b hb).1⟩, fun b hb => (o3.fr b hb).2.2, o1.rows hro⟩
      rw [est]
      exact ⟨_, _, [x, dx], [], rfl, by simp, ⟨rfl, o2⟩, env1⟩
    refine so _ _ Hf H _ sr _ ?_
    rcases himp x os h3 with z | z
    · rw [z] at h4; exact h4.elim
    · rw [z] at h4
      unfold runI at h4
      cases e : F (startI N.length cn x os) with
      | ret o => rw [e] at h4; exact h4.elim
      | nx r =>
        rw [e] at h4
        dsimp only at h4
        intro s1 Hf1 H1 L1 f1 sr1
        cases e0 : r[0]? with
        | none => rw [e0] at h4; exact h4.elim
        | some z0 =>
          rw [e0] at h4
          cases z0 with
          | un => exact h4.elim
          | tq _ => exact h4.elim
          | lt _ _ => exact h4.elim
          | fa _ => exact h4.elim
          | vl _ _ => exact h4.elim
          | me a1 o1 =>
            dsimp only at h4
            by_cases hx : a1 = x
            · rw [if_pos hx] at h4
              subst hx
              obtain ⟨y, A1, M1, B1, k1, k2, k3, _⟩ := sr1.env.at e0
              cases y with
              | none => exact k3.elim
              | some v =>
                obtain ⟨ev1, k4⟩ := k3
                subst ev1
                have sub : ∀ b ∈ M1, b ∈ L1 := fun b hb => by rw [k2]; simp [hb]
                have nd := sr1.nd
                rw [k2] at nd
                simp only [List.nodup_append] at nd
                exact h4 Hf1 H1 M1 sr1.ext k4 ⟨nd.1.2.1, fun b hb => ⟨(sr1.fr b (sub b hb)).2, (sr1.fr b (sub b hb)).1, sr1.ok b (sub b hb)⟩⟩
            · rw [if_neg hx] at h4; exact h4.elim
      | bk r => rw [e] at h4; exact h4.elim
      | ct r => rw [e] at h4; exact h4.elim
      | exc e' r => rw [e] at h4; exact fun s cls d Hf' H' L _ sr' h => h4 cls d Hf' H' sr'.ext h
      | bad => rw [e] at h4; exact h4.elim
end
end DL
namespace DL
open PySem L2
variable {c : Cn} {X : Cx} {a b e : Expr} {es : List Expr} {f g fa fb : FE} {pos : Pos} {fs : Env → Res (List O)} {K : PySem.W.Frag} {H0 H H' Hf Hf' : Hp} {F G : FS} {st : Stmt} {sts : List Stmt} {ft : Env → Res Bool}
def spNk (K : PySem.W.Frag) (C : Addr) (fn : Str) : Sp := fun vs H Q _ => ∃ (a : Addr) (y : V), vs = [.ref a, y] ∧ H a = some (exo a C none) ∧ ∀ d, H d = none → d ≠ a → Q .non (upd (upd H d (exd d [(fn, y)])) a (exo a C (some d)))
structure NkT (P : Program) (w : World) (K : PySem.W.Frag) (mg : Str → Option Value) (base : Heap) (x fn : Str) (k : Nat) : Prop where
  cls : OexC K (He.ga K x)
  ex : ∃ fI fd ps, FnOk P w K mg base CX0 k fI fd ps (spNk K (He.ga K x) fn) ∧ PySem.W.findIn K (.ref (He.ga K x)) "__init__" = some (some (.ref fI)) ∧ PySem.W.typeIn K (.ref fI) = some (.type "function") ∧ Binds K fd ps []
  g : mg x = some (.ref (He.ga K x))
  n : PySem.W.nsIn K mainGlobals x = some (some (.ref (He.ga K x)))
def XfT (K : PySem.W.Frag) (fn : Str) (tab : List Str) : Prop := ∀ n ∈ tab, ∀ D, PySem.W.nsIn K mainGlobals n = some (some (.ref D)) → XfC K D ∧ PySem.W.findIn K (.ref D) fn = some none
structure NkF (K : PySem.W.Frag) : Prop where
  oex : OexC K (He.ga K "NotKept")
  no : PySem.W.findIn K (.ref (He.ga K "NotKept")) "place" = some none
  iC : PySem.W.findIn K (.ref (He.ga K "NotKept")) "__init__" = some (some (.ref (He.ma K (He.ga K "NotKept") "__init__")))
  tI : PySem.W.typeIn K (.ref (He.ma K (He.ga K "NotKept") "__init__")) = some (.type "function")
  rd : PySem.W.readsIn K (He.ga K "SumError") (.type "type") = true
  gaS : PySem.W.specialIn K (.ref (He.ga K "SumError")) "__getattribute__" = some (some (.builtin "type.__getattribute__"))
  vV : PySem.W.findCls K (.ref (He.ga K "SumError")) (.type "type") "__init__" = some (.val (.builtin "ValueError.__init__"))
  xf : XfC K (He.ga K "NotKept")
  n : PySem.W.nsIn K mainGlobals "NotKept" = some (some (.ref (He.ga K "NotKept")))
theorem NkF.xt (T : NkF K) : XfT K "place" ["NotKept"] := fun n hn D hD => by
  have e : n = "NotKept" := by simpa using hn
  subst e
  rw [T.n] at hD
  cases hD
  exact ⟨T.xf, T.no⟩
end DL
namespace DL
open PySem L2
variable {c : Cn} {X : Cx} {a b e : Expr} {es : List Expr} {f g fa fb : FE} {pos : Pos} {fs : Env → Res (List O)} {K : PySem.W.Frag} {H0 H H' Hf Hf' : Hp} {F G : FS} {st : Stmt} {sts : List Stmt} {ft : Env → Res Bool}
section
variable {a C dx : Addr} {fl : List (Str × V)}
end
theorem kn_code {k c : Addr} {vs : List V} {q : Str} (e : Kn k vs = LamX.CodeO c q) : False := by
  have e1 := HO.ext.inj e
  let o : Obj := { cls := .none, data := .fields #[.none, .str q 0] }
  let h : Heap := { objs := Array.replicate (c + k + 1) o }
  have g : ∀ b : Nat, Nat.le b (Nat.add c k) → h.get? b = some o := fun b hb => by
    have : h.objs[b]? = some o := by
      show (Array.replicate (c + k + 1) o)[b]? = some o
      rw [Array.getElem?_replicate]
      exact if_pos (Nat.lt_succ_of_le hb)
    unfold Heap.get?
    rw [this]
  have z := congrFun e1 h
  have z2 : vs.length ≤ sizeLine ∧ ∃ (its : List Value) (n : Nat), Vals vs its ∧ h.get? k = some { cls := .type "list", data := .seq its.toArray n } := by
    rw [z]
    exact ⟨o, #[.none, .str q 0], 0, g c (Nat.le_add_right c k), rfl, rfl⟩
  obtain ⟨_, its, n, _, z3⟩ := z2
  rw [g k (Nat.le_add_left k c)] at z3
  have := congrArg Obj.data (Option.some.inj z3)
  cases this
theorem paired_get {α β : Type} {F : α → β → Prop} : ∀ {l : List α} {ws : List β} {i : Nat} {x : α}, Paired F l ws → l[i]? = some x → ∃ w, ws[i]? = some w ∧ F x w
  | _, _, _, _, .nil, e => by simp at e
  | _, _, 0, x, .cons r _, e => by simp at e; subst e; exact ⟨_, rfl, r⟩
  | _, _, i + 1, x, .cons _ t, e => by
    obtain ⟨u, h1, h2⟩ := paired_get (i := i) (x := x) t (by simpa using e)
    exact ⟨u, by simpa using h1, h2⟩
end DL
namespace DL
open PySem L2
variable {c : Cn} {X : Cx} {a b e : Expr} {es : List Expr} {f g fa fb : FE} {pos : Pos} {fs : Env → Res (List O)} {K : PySem.W.Frag} {H0 H H' Hf Hf' : Hp} {F G : FS} {st : Stmt} {sts : List Stmt} {ft : Env → Res Bool}
theorem tabNil {α : Type} {P : α → Prop} : ∀ p ∈ ([] : List α), P p := fun _ h => nomatch h
theorem tabCons {α : Type} {P : α → Prop} {a : α} {l : List α} (h : P a) (t : ∀ p ∈ l, P p) : ∀ p ∈ a :: l, P p := fun p hp => by
  rcases List.mem_cons.mp hp with e | e
  · subst e; exact h
  · exact t p e
theorem fldNil {f : Str} : FldF K [] f := fun _ h => nomatch h
theorem fldCons {f c : Str} {l : List Str} (h1 : Cls K (He.ga K c)) (h2 : NoAttr K (He.ga K c) f) (t : FldF K l f) : FldF K (c :: l) f := tabCons (P := fun c => Cls K (He.ga K c) ∧ NoAttr K (He.ga K c) f) ⟨h1, h2⟩ t
end DL
namespace DL
open PySem L2
variable {c : Cn} {X : Cx} {a b e : Expr} {es : List Expr} {f g fa fb : FE} {pos : Pos} {fs : Env → Res (List O)} {K : PySem.W.Frag} {H0 H H' Hf Hf' : Hp} {F G : FS} {st : Stmt} {sts : List Stmt} {ft : Env → Res Bool}
def ipW : TIp := fun x y H Q => ∃ i j, x = .int i ∧ y = .int j ∧ CMulH i j ∧ Q (.int (i * j)) H
theorem ip_mulW : PIp X .Mult ipW := by
  intro pins s σ H x y v u Q I r1 r2 h
  obtain ⟨i, j, e1, e2, hc, q⟩ := h
  subst e1; subst e2
  obtain ⟨t, rfl⟩ := r1
  obtain ⟨t', rfl⟩ := r2
  exact PyProof.Rows.imul_int ⟨.int _, H, I.tok _, ⟨_, rfl⟩, q⟩ hc.ok.ok
theorem ds_augM {i : Nat} {x : Str} {pos' : Pos} (hN : X.N.Nodup) (hi : X.N[i]? = some x) (hx : Loc X.env.scope x) (h : DE c X e f)
    (hf : X.fn x = true ∨ X.env.scope.names.lookup x = some .local := by first | exact .inl rfl | exact .inr rfl | assumption) : DS c X (.AugAssign (.Name x pos') .Mult e pos) (sAug i gMul f) := by
  obtain ⟨t, p, s⟩ := h.ex
  refine ⟨tAug i t ipW, ps_aug hN hi hx p ip_mulW hf, fun r s' Hf H L sr D q => ?_⟩
  cases er1 : r[i]? with
  | none => simp only [sAug, er1] at q; exact q.elim
  | some y =>
    cases y with
    | un => simp only [sAug, er1] at q; exact q.elim
    | me _ _ => simp only [sAug, er1] at q; exact q.elim
    | tq _ => simp only [sAug, er1] at q; exact q.elim
    | lt _ _ => simp only [sAug, er1] at q; exact q.elim
    | fa _ => simp only [sAug, er1] at q; exact q.elim
    | vl w o =>
      simp only [sAug, er1] at q
      obtain ⟨v, hv, rv⟩ := sr.slot er1
      refine ⟨v, hv, ?_⟩
      refine s.use sr q fun x u Hf1 H1 L1 x1 sr1 a1 n1 q1 => ?_
      have a2 := (a1.argR n1).a (sr1.same0)
      cases eg : gMul o x.a with
      | bad => rw [eg] at q1; exact q1.elim
      | exc _ => rw [eg] at q1; exact q1.elim
      | ok z =>
        rw [eg] at q1
        obtain ⟨m, n, e1, e2, e4, e3⟩ := gInt_ok eg
        subst e1 e3
        rw [e2] at a2
        refine ⟨m, n, rv, a2, by unfold CMulH; exact of_decide_eq_true e4, ?_⟩
        by_cases hl : i < r.length
        · simp only [put, setS, if_pos hl] at q1
          obtain ⟨Hf2, L2, f2, sr2⟩ := sr1.store (own := false) (Ext.refl sr1.sub) (fun _ => sr1.ext.same.ne_none) sr1.ok (fz_new (K := X.K) (H0 := c.H0) (H := H1) (d := DL.D.int (m * n)) (v := V.int (m * n)) rfl) nw_nil rfl hl
          exact q1 _ _ _ _ f2 sr2
        · simp only [put, setS, if_neg hl] at q1; exact q1.elim
section
variable {prog : Program} {w : World} {A : Around} {E : Value → Shared → Prop} {s : Shared}
theorem old_keptT {l : Addr} {h' : Heap} (hk : ∀ b o, b ∉ [s.heap.objs.size] → (s.heap.push { cls := .type "tuple_iterator", data := .fields #[.ref l, .int 0 0] }).get? b = some o → h'.get? b = some o) :
    ∀ b o, s.heap.get? b = some o → h'.get? b = some o := fun b o e => hk b o (by simpa using Nat.ne_of_lt (Heap.lt_size e)) (Heap.get?_push_of_some _ e)
theorem minT_raw {l : Addr} {its : List Value} {ns : List Int} {Q : Value → Shared → Prop} (hh : A.handled = none) (hl : s.heap.IsTuple l its.toArray) (hi : PyProof.Rows.IntsAre its ns) (hne : 0 < ns.length)
    (h : ∀ h' tk M t', (∀ b o, s.heap.get? b = some o → h'.get? b = some o) → M ∈ ns → (∀ a, a ∈ ns → M ≤ a) → Q (.int M t') { s with heap := h', toks := tk }) : wpAny (model prog w) A (call (.builtin "min") [.ref l]) Q E s := by
  obtain ⟨xs, e⟩ := hi.allInts.items
  have hn : numsOf (intItems xs).toList = ns := by rw [← e]; exact hi.numsOf
  rw [nums_intItems] at hn
  subst hn
  rw [e] at hl
  have hsz : 0 < xs.size := by simpa using hne
  have hlt : l < s.heap.objs.size := by obtain ⟨_, e, _⟩ := hl; exact Heap.lt_size e
  refine call_min_walk (wpAny_pyIter_tuple hl ?_)
  refine ⟨_, _, _, _, _, _, _, rfl, Walks.tuple (A := A.in1) hh _ l (Nat.ne_of_lt hlt) (intItems xs), ⟨⟨_, Heap.get?_push_size _ rfl, rfl, rfl⟩, hl.push _⟩, fun b hb => ?_, by simpa [intItems] using hsz, CmpOf.ints_lt (numAt xs) (fun _ _ => intItems_at), fun v h' tk hP hk => ?_⟩
  · show b < (s.heap.push _).objs.size
    rw [Heap.size_push]
    simp only [List.mem_cons, List.not_mem_nil, or_false] at hb
    rcases hb with rfl | rfl
    · exact Nat.lt_succ_self _
    · exact Nat.lt_succ_of_lt hlt
  · have hP' : (intItems xs)[argBest (fun i j => decide (numAt xs i < numAt xs j)) (xs.size - 1)]? = some v := by simpa [intItems] using hP
    obtain ⟨t, rfl⟩ := intItems_at hP'
    obtain ⟨h1, h2⟩ := argBest_lt (numAt xs) (xs.size - 1)
    refine h h' tk _ t (old_keptT hk) ?_ fun a ha => ?_
    · rw [numAt_eq]; exact PySem.getD_mem (by rw [List.length_map, Array.length_toList]; omega)
    · obtain ⟨j, hj, rfl⟩ := mem_getD ha
      rw [List.length_map, Array.length_toList] at hj
      rw [← numAt_eq]; exact h2 j (by omega)
theorem maxT_raw {l : Addr} {its : List Value} {ns : List Int} {Q : Value → Shared → Prop} (hh : A.handled = none) (hl : s.heap.IsTuple l its.toArray) (hi : PyProof.Rows.IntsAre its ns) (hne : 0 < ns.length)
    (h : ∀ h' tk M t', (∀ b o, s.heap.get? b = some o → h'.get? b = some o) → M ∈ ns → (∀ a, a ∈ ns → a ≤ M) → Q (.int M t') { s with heap := h', toks := tk }) : wpAny (model prog w) A (call (.builtin "max") [.ref l]) Q E s := by
  obtain ⟨xs, e⟩ := hi.allInts.items
  have hn : numsOf (intItems xs).toList = ns := by rw [← e]; exact hi.numsOf
  rw [nums_intItems] at hn
  subst hn
  rw [e] at hl
  have hsz : 0 < xs.size := by simpa using hne
  have hlt : l < s.heap.objs.size := by obtain ⟨_, e, _⟩ := hl; exact Heap.lt_size e
  refine call_max_walk (wpAny_pyIter_tuple hl ?_)
  refine ⟨_, _, _, _, _, _, _, rfl, Walks.tuple (A := A.in1) hh _ l (Nat.ne_of_lt hlt) (intItems xs), ⟨⟨_, Heap.get?_push_size _ rfl, rfl, rfl⟩, hl.push _⟩, fun b hb => ?_, by simpa [intItems] using hsz, CmpOf.ints_gt (numAt xs) (fun _ _ => intItems_at), fun v h' tk hP hk => ?_⟩
  · show b < (s.heap.push _).objs.size
    rw [Heap.size_push]
    simp only [List.mem_cons, List.not_mem_nil, or_false] at hb
    rcases hb with rfl | rfl
    · exact Nat.lt_succ_self _
    · exact Nat.lt_succ_of_lt hlt
  · have hP' : (intItems xs)[argBest (fun i j => decide (numAt xs i > numAt xs j)) (xs.size - 1)]? = some v := by simpa [intItems] using hP
    obtain ⟨t, rfl⟩ := intItems_at hP'
    obtain ⟨h1, h2⟩ := argBest_gt (numAt xs) (xs.size - 1)
    refine h h' tk _ t (old_keptT hk) ?_ fun a ha => ?_
    · rw [numAt_eq]; exact PySem.getD_mem (by rw [List.length_map, Array.length_toList]; omega)
    · obtain ⟨j, hj, rfl⟩ := mem_getD ha
      rw [List.length_map, Array.length_toList] at hj
      rw [← numAt_eq]; exact h2 j (by omega)
end
section
def rMinT (K : PySem.W.Frag) : List V → Hp → VK → Prop := fun vs H Q => ∃ (a : Addr) (ns : List Int), vs = [V.ref a] ∧ SqT K H a (ns.map V.int) ∧ 0 < ns.length ∧ ∀ m, m ∈ ns → (∀ y, y ∈ ns → m ≤ y) → Q (.int m) H
def rMaxT (K : PySem.W.Frag) : List V → Hp → VK → Prop := fun vs H Q => ∃ (a : Addr) (ns : List Int), vs = [V.ref a] ∧ SqT K H a (ns.map V.int) ∧ 0 < ns.length ∧ ∀ m, m ∈ ns → (∀ y, y ∈ ns → y ≤ m) → Q (.int m) H
theorem cr_minT (hc : X.calm = true) : CallR X (.builtin "min") (rMinT X.K) := by
  intro pins s σ H vs us Q I r h
  obtain ⟨a, ns, rfl, hs, hne, q⟩ := h
  obtain ⟨its, rv, hl, _⟩ := I.tuple hs
  rw [Vals.ref1 r]
  exact minT_raw (I.ok.hd hc) hl rv.ints hne fun h' tk m t' hk h1 h2 => ⟨.int _, H, I.kept hk, ⟨_, rfl⟩, q m h1 h2⟩
theorem cr_maxT (hc : X.calm = true) : CallR X (.builtin "max") (rMaxT X.K) := by
  intro pins s σ H vs us Q I r h
  obtain ⟨a, ns, rfl, hs, hne, q⟩ := h
  obtain ⟨its, rv, hl, _⟩ := I.tuple hs
  rw [Vals.ref1 r]
  exact maxT_raw (I.ok.hd hc) hl rv.ints hne fun h' tk m t' hk h1 h2 => ⟨.int _, H, I.kept hk, ⟨_, rfl⟩, q m h1 h2⟩
end
def tupD : O → Option (List D)
  | .fz (.tup ds) => some ds
  | _ => none
theorem tupD_rep {o : O} {ds : List D} {v : V} (h : RepV K Hf H o v) (e : tupD o = some ds) : ∃ a vs, v = .ref a ∧ Hf a = some (.tup vs) ∧ Reps K Hf ds vs := by
  cases o with
  | fz d =>
    cases d with
    | tup ds' => cases e; exact h
    | _ => cases e
  | _ => cases e
def intsD : List D → Option (List Int)
  | [] => some []
  | .int i :: ds => (intsD ds).map (i :: ·)
  | _ :: _ => none
theorem intsD_rep : ∀ {ds : List D} {ns : List Int} {vs : List V}, intsD ds = some ns → Reps K Hf ds vs → vs = ns.map V.int
  | [], ns, vs, e, h => by cases e; exact h
  | d :: ds, ns, vs, e, h => by
    obtain ⟨v, r, e1, h1, h2⟩ := h
    cases d with
    | int i =>
      cases e2 : intsD ds with
      | none => simp [intsD, e2] at e
      | some ms =>
        have e' : i :: ms = ns := by simpa [intsD, e2] using e
        rw [← e', e1, intsD_rep e2 h2, show v = .int i from h1]; rfl
    | _ => cases e
def gMinT : List O → Res R
  | [o] => (match (tupD o).bind intsD with | some (x :: xs) => fzR (.int (minL x xs)) | _ => .bad)
  | _ => .bad
def gMaxT : List O → Res R
  | [o] => (match (tupD o).bind intsD with | some (x :: xs) => fzR (.int (maxL x xs)) | _ => .bad)
  | _ => .bad
theorem tints_rep {o : O} {ns : List Int} {v : V} (sub : Same Hf H) (h : RepV K Hf H o v) (e : (tupD o).bind intsD = some ns) : ∃ a, v = .ref a ∧ SqT K H a (ns.map V.int) := by
  cases ei : tupD o with
  | none => rw [ei] at e; cases e
  | some ds =>
    rw [ei] at e
    obtain ⟨a, vs, e1, h1, h2⟩ := tupD_rep h ei
    rw [intsD_rep (show intsD ds = some ns from e) h2] at h1
    exact ⟨a, e1, .of (sub _ _ h1)⟩
theorem pc_minT : PureC K (rMinT K) gMinT := fun c s Hf H vs os Q sub h q => by
  cases os with
  | nil => exact q.elim
  | cons o os =>
    cases os with
    | cons _ _ => exact q.elim
    | nil =>
      obtain ⟨v, e, h1⟩ := rep1 h
      subst e
      cases ei : (tupD o).bind intsD with
      | none => simp only [gMinT, ei] at q; exact q.elim
      | some ns =>
        cases ns with
        | nil => simp only [gMinT, ei] at q; exact q.elim
        | cons x xs =>
          simp only [gMinT, ei] at q
          obtain ⟨a, e1, h2⟩ := tints_rep sub h1 ei
          subst e1
          refine ⟨a, x :: xs, rfl, h2, by simp, fun m hm hle => ?_⟩
          have e : m = minL x xs := by
            obtain ⟨k1, k2⟩ := minL_le xs x
            have k3 := hle _ (minL_mem xs x)
            rcases List.mem_cons.mp hm with h | h
            · subst h; omega
            · have := k2 m h; omega
          rw [e]
          exact postE_fz sub q rfl
theorem pc_maxT : PureC K (rMaxT K) gMaxT := fun c s Hf H vs os Q sub h q => by
  cases os with
  | nil => exact q.elim
  | cons o os =>
    cases os with
    | cons _ _ => exact q.elim
    | nil =>
      obtain ⟨v, e, h1⟩ := rep1 h
      subst e
      cases ei : (tupD o).bind intsD with
      | none => simp only [gMaxT, ei] at q; exact q.elim
      | some ns =>
        cases ns with
        | nil => simp only [gMaxT, ei] at q; exact q.elim
        | cons x xs =>
          simp only [gMaxT, ei] at q
          obtain ⟨a, e1, h2⟩ := tints_rep sub h1 ei
          subst e1
          refine ⟨a, x :: xs, rfl, h2, by simp, fun m hm hle => ?_⟩
          have e : m = maxL x xs := by
            obtain ⟨k1, k2⟩ := maxL_ge xs x
            have k3 := hle _ (maxL_mem xs x)
            rcases List.mem_cons.mp hm with h | h
            · subst h; omega
            · have := k2 m h; omega
          rw [e]
          exact postE_fz sub q rfl
def eSlT (f : FE) (l h : FP) : FE := fun r => (f r).bind fun x => (l r).bind fun lo => (h r).bind fun hi => match tupD x.a with
  | some ds => if HT.sIx ds.length 0 lo = 0 ∧ HT.sIx ds.length ds.length hi = ds.length then .bad else .ok (.nw (.fz (.tup (cutL ds lo hi))))
  | none => .bad
theorem Reps.drop : ∀ {ds : List D} {vs : List V} (n : Nat), Reps K H ds vs → Reps K H (ds.drop n) (vs.drop n)
  | [], _, n, h => by have h' : _ = _ := h; subst h'; cases n <;> rfl
  | d :: ds, _, 0, h => h
  | d :: ds, _, n + 1, h => by
    obtain ⟨v, r, e, h1, h2⟩ := h
    subst e
    exact Reps.drop n h2
theorem Reps.take : ∀ {ds : List D} {vs : List V} (n : Nat), Reps K H ds vs → Reps K H (ds.take n) (vs.take n)
  | [], _, n, h => by have h' : _ = _ := h; subst h'; cases n <;> rfl
  | d :: ds, _, 0, h => rfl
  | d :: ds, _, n + 1, h => by
    obtain ⟨v, r, e, h1, h2⟩ := h
    subst e
    exact ⟨v, _, rfl, h1, Reps.take n h2⟩
theorem Reps.cut {ds : List D} {vs : List V} (h : Reps K H ds vs) (lo hi : Option Int) : Reps K H (cutL ds lo hi) (cutV vs lo hi) := by
  unfold cutL cutV
  rw [Reps.length h]
  exact (h.drop _).take _
theorem de_slT {lo hi : Option Expr} {fl fh : FP} {p2 : Pos} (h : DE c X a f) (hl : DP c X lo fl) (hh : DP c X hi fh) : DE c X (.Subscript a (.Slice lo hi none p2) pos) (eSlT f fl fh) := by
  obtain ⟨t, p, s⟩ := h.ex
  obtain ⟨tl, pl, sl⟩ := hl.ex
  obtain ⟨th, ph, sh⟩ := hh.ex
  refine ⟨_, pe_slice sl_tup p pl ph, fun r s' Hf H L sr Q q => ?_⟩
  refine s.run sr pstE q fun x v Hf1 H1 x1 sr1 a1 q1 => ?_
  refine sl.run sr1 pstE q1 fun l Hf2 H2 x2 sr2 q2 => ?_
  refine sh.run sr2 pstE q2 fun u Hf3 H3 x3 sr3 q3 => ?_
  have a3 := (a1.mono (x2.trans x3).fsame (x2.trans x3).same).a sr3.same0
  cases ei : tupD x.a with
  | none => simp only [ei] at q3; exact q3.elim
  | some ds =>
    simp only [ei] at q3
    obtain ⟨p', vs, e1, h1, h2⟩ := tupD_rep a3 ei
    by_cases hc : HT.sIx ds.length 0 l = 0 ∧ HT.sIx ds.length ds.length u = ds.length
    · rw [if_pos hc] at q3; exact q3.elim
    · rw [if_neg hc] at q3
      exact ⟨p', vs, e1, .of (sr3.sub _ _ h1), by rw [Reps.length h2]; exact hc, fun pp hp => postE_tup sr3.sub q3 (h2.cut _ _) hp⟩
structure InsF (K : PySem.W.Frag) (C : Addr) : Prop where
  f1 : PySem.W.findIn K (.ref C) "__class__" = some (some (.builtin "object.__class__"))
  f2 : PySem.W.specialIn K (.builtin "object.__class__") "__get__" = some (some (.builtin "getset_descriptor.__get__"))
  f3 : PySem.W.takesIn K (.builtin "object.__class__") = some true
  f4 : PySem.W.mroIn K C (.type "object") = some true
structure IsOT (K : PySem.W.Frag) (x : Str) (tab : List (Str × Bool)) : Prop where
  at_ : ∀ n b, tab.lookup n = some b → Cls K (He.ga K n) ∧ InsF K (He.ga K n) ∧ PySem.W.kitOne K (.ref (He.ga K n)) (.ref (He.ga K x)) = some b
open Classical in
noncomputable def mI (f : Addr → Res O) : Res O := if h : ∃ x, ∀ a, f a = x then h.choose else .bad
theorem mI_imp {f : Addr → Res O} (a : Addr) : mI f = .bad ∨ mI f = f a := by
  unfold mI
  split
  · rename_i h; exact .inr (h.choose_spec a).symm
  · exact .inl rfl
theorem mI_of {f : Addr → Res O} {x : Res O} (h : ∀ a, f a = x) : mI f = x := by
  unfold mI
  rw [dif_pos ⟨x, h⟩]
  have hx : ∃ x, ∀ a, f a = x := ⟨x, h⟩
  exact (hx.choose_spec 0).symm.trans (h 0)
end DL
namespace DL
open PySem L2
variable {c : Cn} {X : Cx} {a b e : Expr} {es : List Expr} {f g fa fb : FE} {pos : Pos} {fs : Env → Res (List O)} {K : PySem.W.Frag} {H0 H H' Hf Hf' : Hp} {F G : FS} {st : Stmt} {sts : List Stmt} {ft : Env → Res Bool}
def Stay (t : TS) : Prop := ∀ D σ H, t ⟨fun σ' H' => σ' = σ → D.nx σ' H', D.rt, D.bk, D.ct⟩ σ H → t D σ H
structure DSt (c : Cn) (X : Cx) (st : Stmt) (f : FS) : Prop where
  ex : ∃ t, PS X st t ∧ SoS c X.K t f ∧ Stay t
theorem set_self {α : Type} {l : List α} {i : Nat} {x : α} (h : l[i]? = some x) : l.set i x = l := by
  obtain ⟨hl, hg⟩ := List.getElem?_eq_some_iff.mp h
  rw [← hg]; exact List.set_getElem_self hl
theorem RepVs.erase : ∀ {os : List O} {vs : List V} (n : Nat), RepVs K Hf H os vs → RepVs K Hf H (os.eraseIdx n) (vs.eraseIdx n)
  | [], _, n, h => by have h' : _ = _ := h; subst h'; rfl
  | o :: os, _, 0, h => by
    obtain ⟨v, r, e, h1, h2⟩ := h
    subst e
    exact h2
  | o :: os, _, n + 1, h => by
    obtain ⟨v, r, e, h1, h2⟩ := h
    subst e
    exact ⟨v, _, rfl, h1, RepVs.erase n h2⟩
def rmL (H : Hp) (L : List Addr) : Hp := fun b => if b ∈ L then none else H b
theorem rmL_in {L : List Addr} {b : Addr} (h : b ∈ L) : rmL H L b = none := if_pos h
theorem rmL_out {L : List Addr} {b : Addr} (h : b ∉ L) : rmL H L b = H b := if_neg h
theorem rmL_some {L : List Addr} {b : Addr} {o : HO} (h : rmL H L b = some o) : H b = some o ∧ b ∉ L := by
  by_cases hb : b ∈ L
  · rw [rmL_in hb] at h; cases h
  · exact ⟨by rw [← rmL_out (H := H) hb]; exact h, hb⟩
def startM (n j : Nat) (a : Addr) (os : List O) : Env := (startE n (os.set j (.fz .non))).set j (.me a (os.getD j (.fz .non)))
def runM (n j : Nat) (F : FS) (a : Addr) (os : List O) : Res (O × O) := match F (startM n j a os) with
  | .ret (.gh o b m) => if b = a then .ok (o, m) else .bad
  | _ => .bad
def spM (K : PySem.W.Frag) (n j : Nat) (F : List O → Res (O × O)) : Sp := fun vs H Q _ => ∃ (Hf : Hp) (a : Addr) (o : O) (L : List Addr) (os : List O), vs[j]? = some (.ref a) ∧ os[j]? = some o ∧ os.length = n ∧ vs.length = n ∧ Same Hf H ∧ Rows (tK K) Hf H ∧ RepO K Hf H o (.ref a) L ∧ L.Nodup ∧
  (∀ b ∈ L, Hf b = none ∧ H b ≠ none) ∧ RepVs K Hf (rmL H L) (os.set j (.fz .non)) (vs.set j .non) ∧ match F os with
  | .ok p => ∀ v Hf' H' L1 L2, Ext Hf (rmL H L) Hf' H' → RepO K Hf' H' p.1 v L1 → RepO K Hf' H' p.2 (.ref a) L2 → Nw (rmL H L) Hf' H' (L1 ++ L2) → Q v H'
  | _ => False
structure DefA (P : Program) (w : World) (K : PySem.W.Frag) (mg : Str → Option Value) (base : Heap) (x : Str) (k n j : Nat) (F : List O → Res (O × O)) : Prop where
  ex : ∃ f fd ps, FnOk P w K mg base (L2.CX P w) k f fd ps (spM K n j F) ∧ mg x = some (.ref f) ∧ PySem.W.keepIn K (.ref f) = true ∧ Binds K fd ps [] ∧ ps.length = n
section
variable {P : Program} {w : World} {mg : Str → Option Value} {base : Heap} {x qual : Str} {params : Arguments} {body : List Stmt} {scope : Scope} {fA : Addr} {fd : FuncData} {N ps : List Str} {k n j : Nat}
theorem fnA (Fn : FunD K x qual params body scope [] [] fA fd) (S : FnScope N ps scope) (hn : ps.length = n) (hj : j < n) (F : FS) (M : List O → Res (O × O))
    (hbody : ∀ (cdv : Value) (A : Around) (outer : List PySem.Env) (s : Shared) (H H0 : Hp) (E : XK) (Hf : Hp), Bk ⟨Hf, H0, fun cls d _ H' => E cls d H'⟩ (cxOf (L2.CX P w) P w K mg base N qual scope fA cdv A outer s H E) k →
      DSs ⟨Hf, H0, fun cls d _ H' => E cls d H'⟩ (cxOf (L2.CX P w) P w K mg base N qual scope fA cdv A outer s H E) body F)
    (himp : ∀ a os, os.length = n → M os = .bad ∨ M os = runM N.length j F a os) : FnOk P w K mg base (L2.CX P w) (k + 1) fA fd ps (spM K n j M) := by
  subst hn
  refine Fn.ok S (fun vs H Q E h => ?_) (fun cdv A outer s H vs Q E hr h => ?_)
  · obtain ⟨Hf, a, o, L, os, _, _, _, h1, _⟩ := h
    exact h1
  · obtain ⟨Hf, a, o, L, os, va, oa, ol, vl, sub, hro, hrep, hnd, hfr, hvs, h4⟩ := h
    have B : Bk ⟨Hf, rmL H L, fun cls d _ H' => E cls d H'⟩ (cxOf (L2.CX P w) P w K mg base N qual scope fA cdv A outer s H E) k := ⟨hr, takes_of rfl rfl rfl rfl, passes_of rfl, rfl⟩
    obtain ⟨t, p, so⟩ := (hbody cdv A outer s H (rmL H L) E Hf B).ex
    refine ⟨t, p, ?_⟩
    have ext0 : Ext Hf (rmL H L) Hf H := ⟨Same.sm fun b u e => (rmL_some e).1, Same.refl _, sub, fun _ _ h => h, fun h => h.up fun k vs e => (rmL_some e).1⟩
    have env0 : EnvR K Hf (rmL H L) H (startE N.length (os.set j (.fz .non))) ((vs.set j .non).map some ++ List.replicate (N.length - (os.set j (.fz .non)).length) none) [] := env_start hvs
    have ej : (startE N.length (os.set j (.fz .non)))[j]? = some (.vl false (.fz .non)) := by
      unfold startE
      rw [List.getElem?_append_left (by simp; omega)]
      simp [ol, hj]
    obtain ⟨y, A1, M1, B1, k1, k2, _, k4⟩ := env0.at ej
    have hAB : A1 = [] ∧ M1 = [] ∧ B1 = [] := by
      have := congrArg List.length k2
      simp only [List.length_nil, List.length_append] at this
      exact ⟨List.length_eq_zero_iff.mp (by omega), List.length_eq_zero_iff.mp (by omega), List.length_eq_zero_iff.mp (by omega)⟩
    obtain ⟨rfl, rfl, rfl⟩ := hAB
    have env1 := k4 Hf H (.me a o) (some (.ref a)) L (Same.refl _) Tst.rf (fun _ _ _ q => q) ⟨rfl, hrep⟩
    have est : ((vs.set j .non).map some ++ List.replicate (N.length - (os.set j (.fz .non)).length) none).set j (some (.ref a)) = L2.start N vs := by
      unfold L2.start
      rw [List.set_append_left _ _ (by simp; omega), List.length_set, ol, vl]
      congr 1
      rw [← List.map_set, List.set_set, set_self va]
    rw [est] at env1
    have eo : os.getD j (.fz .non) = o := by rw [List.getD_eq_getElem?_getD, oa]; rfl
    have sr : SR K Hf (rmL H L) (startM N.length j a os) (L2.start N vs) Hf H L := by
      refine ⟨ext0, ?_, hnd, fun b hb => ⟨(hfr b hb).1, rmL_in hb⟩, fun b hb => (hfr b hb).2, hro⟩
      unfold startM
      rw [eo]
      simpa using env1
    refine so _ _ Hf H L sr _ ?_
    rcases himp a os ol with z | z
    · rw [z] at h4; exact h4.elim
    · rw [z] at h4
      unfold runM at h4
      cases e : F (startM N.length j a os) with
      | ret q =>
        rw [e] at h4
        cases q with
        | gh o' b m =>
          dsimp only at h4
          by_cases hab : b = a
          · rw [if_pos hab] at h4
            subst hab
            intro v Hf' H' Lr _ x q' nw
            obtain ⟨L1, L2, g1, g2, g3⟩ := q'
            subst g3
            exact h4 v Hf' H' L1 L2 x g1 g2 nw
          · rw [if_neg hab] at h4; exact h4.elim
        | _ => exact h4.elim
      | nx r => rw [e] at h4; exact h4.elim
      | bk r => rw [e] at h4; exact h4.elim
      | ct r => rw [e] at h4; exact h4.elim
      | exc e' r => rw [e] at h4; exact h4.elim
      | bad => rw [e] at h4; exact h4.elim
theorem DefA.ofD (Fn : FunD K x qual params body scope [] [] fA fd) (S : FnScope N ps scope) (hm : mg x = some (.ref fA)) (hb : Binds K fd ps []) (hn : ps.length = n) (hj : j < n) (F : FS) (M : List O → Res (O × O))
    (hbody : ∀ (cdv : Value) (A : Around) (outer : List PySem.Env) (s : Shared) (H H0 : Hp) (E : XK) (Hf : Hp), Bk ⟨Hf, H0, fun cls d _ H' => E cls d H'⟩ (cxOf (L2.CX P w) P w K mg base N qual scope fA cdv A outer s H E) k →
      DSs ⟨Hf, H0, fun cls d _ H' => E cls d H'⟩ (cxOf (L2.CX P w) P w K mg base N qual scope fA cdv A outer s H E) body F)
    (himp : ∀ a os, os.length = n → M os = .bad ∨ M os = runM N.length j F a os) : DefA P w K mg base x (k + 1) n j M :=
  ⟨fA, fd, ps, fnA Fn S hn hj F M hbody himp, hm, Fn.kp, hb, hn⟩
structure DefMM (P : Program) (w : World) (K : PySem.W.Frag) (mg : Str → Option Value) (base : Heap) (cn m : Str) (k n : Nat) (F : List O → Res (O × O)) : Prop where
  ex : ∃ f fd ps, FnOk P w K mg base (L2.CX P w) k f fd ps (spM K n 0 F) ∧ Cls K (He.ga K cn) ∧ Meth K (He.ga K cn) m f ∧ Binds K fd ps [] ∧ ps.length = n
theorem DefMM.ofD (Fn : FunD K x qual params body scope [] [] fA fd) (S : FnScope N ps scope) {cn m : Str} (cl : Cls K (He.ga K cn)) (hm : Meth K (He.ga K cn) m fA) (hb : Binds K fd ps []) (hn : ps.length = n) (hj : 0 < n) (F : FS) (M : List O → Res (O × O))
    (hbody : ∀ (cdv : Value) (A : Around) (outer : List PySem.Env) (s : Shared) (H H0 : Hp) (E : XK) (Hf : Hp), Bk ⟨Hf, H0, fun cls d _ H' => E cls d H'⟩ (cxOf (L2.CX P w) P w K mg base N qual scope fA cdv A outer s H E) k →
      DSs ⟨Hf, H0, fun cls d _ H' => E cls d H'⟩ (cxOf (L2.CX P w) P w K mg base N qual scope fA cdv A outer s H E) body F)
    (himp : ∀ a os, os.length = n → M os = .bad ∨ M os = runM N.length 0 F a os) : DefMM P w K mg base cn m (k + 1) n M :=
  ⟨fA, fd, ps, fnA Fn S hn hj F M hbody himp, cl, hm, hb, hn⟩
end
def SoAm (c : Cn) (K : PySem.W.Frag) (t : TA) (fs : Env → Res (List O)) (j i : Nat) : Prop := ∀ r s Hf H L, c.SR K r s Hf H L → ∀ Q : List V → Hp → Prop, (match fs r with
  | .ok os => ∀ vs Hf' H', Ext Hf H Hf' H' → RepVs K Hf' H' os vs → (∃ v, s[i]? = some (some v) ∧ vs[j]? = some v) → Q vs H'
  | _ => False) → t s H Q
structure DAm (c : Cn) (X : Cx) (es : List Expr) (fs : Env → Res (List O)) (j i : Nat) : Prop where
  ex : ∃ t, PA X es t ∧ SoAm c X.K t fs j i
end DL
namespace L2
open PySem PySem.Spec PyProof.Rows
section
variable {M : Model} {A : Around} {E : Value → Shared → Prop} {s : Shared} {Z : Obj → Prop} {G : Heap} {env : Env} {outer : List Env} {L a : Addr}
end
section
variable {X : Cx} {W : WX} {pins : List (Addr × Obj)} {σ : St} {H3 : Hp} {s3 : Shared} {scope : Scope} {ce : Env} {fp : List Addr}
end
end L2
namespace DL
open PySem L2
variable {c : Cn} {X : Cx} {a b e : Expr} {es : List Expr} {f g fa fb : FE} {pos : Pos} {fs : Env → Res (List O)} {K : PySem.W.Frag} {H0 H H' Hf Hf' : Hp} {F G : FS} {st : Stmt} {sts : List Stmt} {ft : Env → Res Bool}
section
variable {k : Nat} {elt tg iter : Expr} {scope : Scope} {own : List (Str × Nat)} {fi : Env → Res (List R)} {fg : FG}
end
end DL
namespace DL
open PySem L2
variable {c : Cn} {X : Cx} {a b e : Expr} {es : List Expr} {f g fa fb : FE} {pos : Pos} {fs : Env → Res (List O)} {K : PySem.W.Frag} {H0 H H' Hf Hf' : Hp} {F G : FS} {st : Stmt} {sts : List Stmt} {ft : Env → Res Bool}
def atP : List Nat → O → Option O
  | [], o => some o
  | j :: p, .ls os => (os[j]?).bind (atP p)
  | j :: p, .tp os => (os[j]?).bind (atP p)
  | _ :: _, _ => none
def setP (x : O) : List Nat → O → O
  | [], _ => x
  | j :: p, .ls os => (match os[j]? with | some o => .ls (os.set j (setP x p o)) | none => .ls os)
  | j :: p, .tp os => (match os[j]? with | some o => .tp (os.set j (setP x p o)) | none => .tp os)
  | _ :: _, o => o
def PathA (H : Hp) : List Nat → V → V → Prop
  | [], v, w => v = w
  | j :: p, v, w => ∃ a vs u, v = .ref a ∧ (H a = some (.lst vs) ∨ H a = some (.tup vs)) ∧ vs[j]? = some u ∧ PathA H p u w
theorem PathA.mono (s : Sm H H') : ∀ {p : List Nat} {v w : V}, PathA H p v w → PathA H' p v w
  | [], _, _, h => h
  | j :: p, _, _, ⟨a, vs, u, e1, h1, h2, h3⟩ => ⟨a, vs, u, e1, h1.imp (fun z => s.lst z) (fun z => s.tup z), h2, PathA.mono s h3⟩
theorem PathA.fn : ∀ {p : List Nat} {v w w' : V}, PathA H p v w → PathA H p v w' → w = w'
  | [], _, _, _, h, h' => h.symm.trans h'
  | j :: p, _, _, _, ⟨a, vs, u, e1, h1, h2, h3⟩, ⟨a', vs', u', e1', h1', h2', h3'⟩ => by
    subst e1
    cases e1'
    have ev : vs = vs' := by
      rcases h1 with h1 | h1 <;> rcases h1' with h1' | h1' <;> rw [h1] at h1' <;> cases h1' <;> rfl
    subst ev
    rw [h2] at h2'
    cases h2'
    exact PathA.fn h3 h3'
theorem RepO.path : ∀ (p : List Nat) (o : O) (v : V) (L : List Addr) (o1 : O), RepO K Hf H o v L → atP p o = some o1 → ∃ v1 A M B, L = A ++ M ++ B ∧ PathA H p v v1 ∧ RepO K Hf H o1 v1 M ∧
    ∀ (Hf' H' : Hp) (x : O) (M' : List Addr), Same Hf Hf' → (∀ a ∈ A ++ B, ∀ u, H a = some u → H' a = some u) → RepO K Hf' H' x v1 M' → RepO K Hf' H' (setP x p o) v (A ++ M' ++ B)
  | [], o, v, L, o1, h, e => by
    cases e
    exact ⟨v, [], L, [], by simp, rfl, h, fun Hf' H' x M' _ _ q => by simpa [setP] using q⟩
  | j :: p, .ls os, v, L, o1, h, e => by
    obtain ⟨a, vs, M0, e1, h1, h2, e2⟩ := h
    subst e1 e2
    simp only [atP] at e
    cases ej : os[j]? with
    | none => rw [ej] at e; cases e
    | some o2 =>
      rw [ej] at e
      obtain ⟨v2, L1, N, L2, g1, g2, g3, g4⟩ := RepOs.at h2 ej
      subst g2
      obtain ⟨v1, A, M, B, e3, e4, e5, e6⟩ := RepO.path p o2 v2 N o1 g3 e
      subst e3
      refine ⟨v1, a :: (L1 ++ A), M, B ++ L2, by simp [List.append_assoc], ⟨a, vs, v2, rfl, .inl h1, g1, e4⟩, e5, fun Hf' H' x M' f k q => ?_⟩
      simp only [setP, ej]
      refine ⟨a, vs, L1 ++ (A ++ M' ++ B) ++ L2, rfl, k a (by simp) _ h1, ?_, by simp [List.append_assoc]⟩
      exact g4 Hf' H' _ _ f (fun b hb => k b (by simp only [List.mem_append, List.mem_cons] at hb ⊢; rcases hb with hb | hb <;> simp [hb])) (e6 Hf' H' x M' f (fun b hb => k b (by simp only [List.mem_append, List.mem_cons] at hb ⊢; rcases hb with hb | hb <;> simp [hb])) q)
  | j :: p, .tp os, v, L, o1, h, e => by
    obtain ⟨a, vs, M0, e1, h1, h2, e2⟩ := h
    subst e1 e2
    simp only [atP] at e
    cases ej : os[j]? with
    | none => rw [ej] at e; cases e
    | some o2 =>
      rw [ej] at e
      obtain ⟨v2, L1, N, L2, g1, g2, g3, g4⟩ := RepOs.at h2 ej
      subst g2
      obtain ⟨v1, A, M, B, e3, e4, e5, e6⟩ := RepO.path p o2 v2 N o1 g3 e
      subst e3
      refine ⟨v1, a :: (L1 ++ A), M, B ++ L2, by simp [List.append_assoc], ⟨a, vs, v2, rfl, .inr h1, g1, e4⟩, e5, fun Hf' H' x M' f k q => ?_⟩
      simp only [setP, ej]
      refine ⟨a, vs, L1 ++ (A ++ M' ++ B) ++ L2, rfl, k a (by simp) _ h1, ?_, by simp [List.append_assoc]⟩
      exact g4 Hf' H' _ _ f (fun b hb => k b (by simp only [List.mem_append, List.mem_cons] at hb ⊢; rcases hb with hb | hb <;> simp [hb])) (e6 Hf' H' x M' f (fun b hb => k b (by simp only [List.mem_append, List.mem_cons] at hb ⊢; rcases hb with hb | hb <;> simp [hb])) q)
  | _ :: _, .fz _, _, _, _, _, e => by cases e
  | _ :: _, .ob _ _ _, _, _, _, _, e => by cases e
  | _ :: _, .dt _ _, _, _, _, _, e => by cases e
  | _ :: _, .dk _ _, _, _, _, _, e => by cases e
  | _ :: _, .gh _ _ _, _, _, _, _, e => by cases e
theorem SR.putP {r : Env} {s : St} {L : List Addr} {i : Nat} {p : List Nat} {o o1 : O} (sr : c.SR K r s Hf H L) (e : r[i]? = some (.vl true o)) (ep : atP p o = some o1) :
    ∃ v v1 M, s[i]? = some (some v) ∧ PathA H p v v1 ∧ RepO K Hf H o1 v1 M ∧ ((∀ b ∈ M, b ∈ L) ∧ M.Nodup) ∧
      ∀ (q : Addr) (u u' : HO) (x : O) (M' : List Addr), q ∈ M → H q = some u → (∀ φ : Hk, u ≠ φ.o) → (∀ xs, u ≠ .tup xs) → RepO K Hf (upd H q u') x v1 M' → M'.Nodup → (∀ b ∈ M', b ∈ M) → ∃ L', c.SR K (r.set i (.vl true (setP x p o))) s Hf (upd H q u') L' := by
  obtain ⟨y, A, M0, B, h1, h2, h3, h4⟩ := sr.put e
  cases y with
  | none => exact h3.elim
  | some v =>
    obtain ⟨v1, A1, M, B1, e3, e4, e5, e6⟩ := RepO.path p o v M0 o1 h3 ep
    subst e3
    refine ⟨v, v1, M, h1, e4, e5, ⟨fun b hb => by rw [h2]; simp [hb], ?_⟩, fun q u u' x M' hq hu hn ht hr hnd hM => ?_⟩
    · have nd := sr.nd
      rw [h2] at nd
      simp only [List.nodup_append, List.mem_append] at nd
      exact nd.1.2.1.1.2.1
    have nd := sr.nd
    rw [h2] at nd
    have nd0 : (A1 ++ M ++ B1).Nodup := by
      simp only [List.nodup_append, List.mem_append] at nd ⊢
      exact nd.1.2.1
    have n2 := nd0
    simp only [List.nodup_append, List.mem_append] at n2
    obtain ⟨⟨n21, n22, d21⟩, n23, d22⟩ := n2
    have out : ∀ b ∈ A1 ++ B1, b ≠ q := fun b hb z => by
      subst z
      rcases List.mem_append.mp hb with hb | hb
      · exact d21 b hb b hq rfl
      · exact d22 b (.inr hq) b hb rfl
    have hx := e6 Hf (upd H q u') x M' (Same.refl _) (fun b hb w z => by rw [upd_ne (out b hb)]; exact z) hr
    refine ⟨_, h4 q u u' (.vl true (setP x p o)) (A1 ++ M' ++ B1) (by simp [hq]) hu hn ht hx ?_ fun b hb => .inl ?_⟩
    · simp only [List.nodup_append, List.mem_append]
      exact ⟨⟨n21, hnd, fun x hx y hy => d21 x hx y (hM y hy)⟩, n23, fun x hx y hy => d22 x (hx.imp id (hM x)) y hy⟩
    · simp only [List.mem_append] at hb ⊢
      rcases hb with (hb | hb) | hb
      · exact .inl (.inl hb)
      · exact .inl (.inr (hM b hb))
      · exact .inr hb
def PostPa (c : Cn) (K : PySem.W.Frag) (i : Nat) (r : Env) (s : St) (Hf H : Hp) (L : List Addr) (Q : V → Hp → Prop) : Res (List Nat) → Prop
  | .ok p => ∀ Hf1 H1 v w o, Ext Hf H Hf1 H1 → c.SR K r s Hf1 H1 L → s[i]? = some (some v) → r[i]? = some (.vl true o) → (∃ o1, atP p o = some o1) → PathA H1 p v w → Q w H1
  | .exc e => PostX c K s Hf H e
  | .bad => False
def SoPa (c : Cn) (K : PySem.W.Frag) (t : TE) (i : Nat) (fp : Env → Res (List Nat)) : Prop := ∀ r s Hf H L, c.SR K r s Hf H L → ∀ Q, PostPa c K i r s Hf H L Q (fp r) → t s H Q
structure DPa (c : Cn) (X : Cx) (e : Expr) (i : Nat) (fp : Env → Res (List Nat)) : Prop where
  ex : ∃ t, PE X e t ∧ SoPa c X.K t i fp
def onP (i : Nat) (fp : Env → Res (List Nat)) (k : List Nat → O → O → FS) : FS := fun r => match fp r with
  | .ok p => (match r[i]? with
    | some (.vl true o) => (match atP p o with
      | some o1 => k p o o1 r
      | none => .bad)
    | _ => .bad)
  | .exc e => .exc e r
  | .bad => .bad
theorem SoPa.use {t : TE} {i : Nat} {fp : Env → Res (List Nat)} (h : SoPa c K t i fp) {r : Env} {s : St} {L : List Addr} {k : List Nat → O → O → FS} {D : Ends} (sr : c.SR K r s Hf H L) (q : PostS c K Hf D (onP i fp k r)) {Q : VK}
    (hq : ∀ p o o1 Hf1 H1 v w, Ext Hf H Hf1 H1 → c.SR K r s Hf1 H1 L → s[i]? = some (some v) → r[i]? = some (.vl true o) → atP p o = some o1 → PathA H1 p v w → PostS c K Hf1 D (k p o o1 r) → Q w H1) : t s H Q := by
  refine h r s Hf H L sr _ ?_
  unfold onP at q
  cases e1 : fp r with
  | bad => rw [e1] at q; exact q.elim
  | exc e' => rw [e1] at q; exact fun cls d Hf' H' x er => q s cls d Hf' H' L x.fsame (sr.mono x) er
  | ok p =>
    rw [e1] at q
    intro Hf1 H1 v w o x1 sr1 hv ho ⟨o1, ho1⟩ hw
    simp only [ho, ho1] at q
    exact hq p o o1 Hf1 H1 v w x1 sr1 hv ho ho1 hw (q.mono x1.fsame)
end DL
namespace DL
open PySem L2
variable {c : Cn} {X : Cx} {a b e : Expr} {es : List Expr} {f g fa fb : FE} {pos : Pos} {fs : Env → Res (List O)} {K : PySem.W.Frag} {H0 H H' Hf Hf' : Hp} {F G : FS} {st : Stmt} {sts : List Stmt} {ft : Env → Res Bool}
theorem EnvR.h0 {H0' : Hp} (z : Sm H0 H0') : ∀ {r : Env} {s : St} {L : List Addr}, EnvR K Hf H0 H r s L → EnvR K Hf H0' H r s L
  | [], _, _, h => h
  | x :: r, _, _, h => by
    obtain ⟨y, t, L1, L2, e1, e2, h1, h2⟩ := h
    refine ⟨y, t, L1, L2, e1, e2, ?_, EnvR.h0 z h2⟩
    cases x with
    | un => exact h1
    | me a o =>
      cases y with
      | none => exact h1
      | some v => exact h1
    | tq k =>
      cases y with
      | none => exact h1
      | some v => exact h1
    | fa k =>
      cases y with
      | none => exact h1
      | some v => exact h1
    | lt a o =>
      cases y with
      | none => exact h1
      | some v => exact ⟨h1.1, h1.2.1, RepV.mono (Same.refl _) z o v h1.2.2⟩
    | vl w o =>
      cases y with
      | none => cases w <;> exact h1
      | some v =>
        cases w with
        | true => exact h1
        | false => exact ⟨RepV.mono (Same.refl _) z o v h1.1, h1.2⟩
end DL
namespace DL
open PySem L2
variable {K : PySem.W.Frag}
section
variable {P : Program} {w : World} {mg : Str → Option Value} {base : Heap}
noncomputable def recF (n : Nat) (B : (List O → Res O) → FS) : Nat → List O → Res O
  | 0 => fun _ => .bad
  | j + 1 => runF n (B (recF n B j))
theorem Def.again {x : Str} {k n m : Nat} {B : (List O → Res O) → FS} (h0 : Def P w K mg base x (k + 1) n (fun _ => .bad)) (hs : ∀ (j : Nat) (M : List O → Res O), Def P w K mg base x (k + 1 + j) n M → Def P w K mg base x (k + 1 + j + 1) n (runF m (B M))) : ∀ j, Def P w K mg base x (k + 1 + j) n (recF m B j)
  | 0 => h0
  | j + 1 => hs j _ (Def.again h0 hs j)
end
end DL
namespace DL
open PySem L2
section
variable {c : Cn} {X : Cx} {e : Expr} {es : List Expr} {pos : Pos} {fs : Env → Res (List O)} {K : PySem.W.Frag} {H0 H H' Hf Hf' : Hp}
def spC (K : PySem.W.Frag) (HfE : Hp) (n : Nat) (G : List O → Res O) : Sp := fun vs H Q E => ∃ Hf os, Same HfE Hf ∧ Same Hf H ∧ Rows (tK K) Hf H ∧ RepVs K Hf H os vs ∧ os.length = n ∧ match G os with
  | .ok o => ∀ v Hf' H' L, Ext Hf H Hf' H' → RepO K Hf' H' o v L → Nw H Hf' H' L → Q v H'
  | .exc e => ∀ cls d Hf' H', Ext Hf H Hf' H' → EcR K e cls d Hf' → E cls d H'
  | .bad => False
structure CloF (P : Program) (w : World) (K : PySem.W.Frag) (mg : Str → Option Value) (base : Heap) (HfE : Hp) (k : Nat) (f : Addr) (F : NdefX.NF) (n : Nat) (G : List O → Res O) : Prop where
  run : ∀ (A : Around) (outer : List PySem.Env) (s : Shared) (H : Hp) (us : List Value) (vs : List V) (Q : VK) (E : XK), Room k A → Env0 P w K mg base A outer s H → H f = some (NdefX.FnO f F) → H F.c = some (LamX.CodeO F.c F.qual) → Vals vs us →
    spC K HfE n G vs H Q E → codeAny (model P w) A (.call (.ref f) ⟨us, []⟩) (L2.CR (L2.CX P w) outer P w H s Q E) s
theorem obj_heap (o : Obj) (hd : o.data ≠ .freed) (a b : Addr) : ∃ h : Heap, h.get? a = some o ∧ h.get? b = some o := by
  refine ⟨⟨Array.replicate (Nat.succ (Nat.add a b)) o, {}⟩, ?_, ?_⟩ <;>
  · unfold Heap.get?
    simp only [Array.getElem?_replicate]
    rw [if_pos (Nat.lt_succ_of_le (by first | exact Nat.le_add_right _ _ | exact Nat.le_add_left _ _))]
    obtain ⟨c, d, dt, sl⟩ := o
    cases dt <;> first | rfl | exact absurd rfl hd
theorem kn_fn {k f : Addr} {vs : List V} {F : NdefX.NF} (e : Kn k vs = NdefX.FnO f F) : False := by
  have e1 := HO.ext.inj e
  obtain ⟨h, h1, h2⟩ := obj_heap (⟨.type "function", none, .func (F.fd .none .none .none), #[]⟩ : Obj) (fun z => nomatch z) f k
  have z := congrFun e1 h
  have z2 : vs.length ≤ sizeLine ∧ ∃ (its : List Value) (n : Nat), Vals vs its ∧ h.get? k = some { cls := .type "list", data := .seq its.toArray n } := by
    rw [z]
    exact ⟨none, #[], .none, .none, .none, h1⟩
  obtain ⟨_, its, n, _, z3⟩ := z2
  rw [h2] at z3
  have := congrArg Obj.data (Option.some.inj z3)
  cases this
theorem fn_nk {f : Addr} {F : NdefX.NF} : ¬ isKn (NdefX.FnO f F) := fun z => by
  rcases z with ⟨k, vs, e⟩ | ⟨ps, e⟩
  · exact kn_fn e.symm
  · cases e
theorem code_nk {a : Addr} {q : Str} : ¬ isKn (LamX.CodeO a q) := fun z => by
  rcases z with ⟨k, vs, e⟩ | ⟨ps, e⟩
  · exact kn_code e.symm
  · cases e
theorem Sm.fn {f : Addr} {F : NdefX.NF} (s : Sm H H') (h : H f = some (NdefX.FnO f F)) : H' f = some (NdefX.FnO f F) := (s f _ h).elim id fun z => absurd z.1 fn_nk
theorem Sm.code {a : Addr} {q : Str} (s : Sm H H') (h : H a = some (LamX.CodeO a q)) : H' a = some (LamX.CodeO a q) := (s a _ h).elim id fun z => absurd z.1 code_nk
end
def spG (K : PySem.W.Frag) (HfE : Hp) (f : Addr) (F : NdefX.NF) (n : Nat) (M : List O → Res O) : Sp := fun vs H Q E => ∃ Hf os ws, vs = ws ++ [.ref f] ∧ Same HfE Hf ∧ Same Hf H ∧ Rows (tK K) Hf H ∧ RepVs K Hf H os ws ∧ os.length = n ∧ H f = some (NdefX.FnO f F) ∧ H F.c = some (LamX.CodeO F.c F.qual) ∧ match M os with
  | .ok o => ∀ v Hf' H' L, Ext Hf H Hf' H' → RepO K Hf' H' o v L → Nw H Hf' H' L → Q v H'
  | .exc e => ∀ cls d Hf' H', Ext Hf H Hf' H' → EcR K e cls d Hf' → E cls d H'
  | .bad => False
section
variable {P : Program} {w : World} {K : PySem.W.Frag} {mg : Str → Option Value} {base : Heap} {x qual : Str} {params : Arguments} {body : List Stmt} {scope : Scope} {fA : Addr} {fd : FuncData} {N ps : List Str} {k n : Nat}
structure DefG (P : Program) (w : World) (K : PySem.W.Frag) (mg : Str → Option Value) (x : Str) (k jc n nc : Nat) (M : (List O → Res O) → List O → Res O) : Prop where
  ex : ∃ f fd ps, mg x = some (.ref f) ∧ PySem.W.keepIn K (.ref f) = true ∧ Binds K fd ps [] ∧ ps.length = n + 1 ∧
    ∀ (base : Heap) (HfE : Hp) (g : Addr) (F0 : NdefX.NF) (G : List O → Res O), CloF P w K mg base HfE jc g F0 nc G → FnOk P w K mg base (L2.CX P w) k f fd ps (spG K HfE g F0 n (M G))
end
end DL
namespace DL
open PySem L2 NdefX LamX
structure NdH (H : Hp) (P : Addr) (F : NF) (f : Addr) (H1 : Hp) : Prop where
  fr : H f = none
  fn : H1 f = some (FnO f F)
  co : H1 F.c = some (CodeO F.c F.qual)
  tb : TabN H1 P nestAt
  kp : ∀ b o, b ≠ P → H b = some o → H1 b = some o
  el : ∀ b, b ≠ P → b ≠ f → b ≠ F.c → H1 b = H b
  cf : H F.c = none ∨ H F.c = some (CodeO F.c F.qual)
section
variable {X : Cx} {pins : List (Addr × Obj)} {σ : L2.St} {H : Hp} {s : Shared}
end
section
variable {K : PySem.W.Frag} {H H1 Hf : Hp} {P f : Addr} {F : NF}
theorem NdH.ext (h : NdH H P F f H1) (hP : TabN H P nestAt) {T0 : List Addr} (r : Rows T0 Hf H) (sub : Same Hf H) : Ext Hf H Hf H1 := by
  obtain ⟨ps, p1, _, _⟩ := hP
  obtain ⟨ps1, t1, t2, t3⟩ := h.tb
  have fP : Hf P = none := by
    cases q : Hf P with
    | none => rfl
    | some o =>
      have z := sub P o q
      rw [p1] at z
      cases z
      exact absurd (.inr ⟨ps, rfl⟩) (r.nk P _ q)
  refine ⟨fun b o e => ?_, Same.refl _, fun b o e => ?_, fun _ _ z => z, fun {T} rt => ?_⟩
  · by_cases hb : b = P
    · subst hb
      rw [p1] at e
      cases e
      exact .inr ⟨.inr ⟨ps, rfl⟩, _, t1, .inr ⟨ps1, rfl⟩⟩
    · exact .inl (h.kp b o hb e)
  · by_cases hb : b = P
    · subst hb; rw [fP] at e; cases e
    · exact h.kp b o hb (sub b o e)
  · refine ⟨fun Q hQ => ?_, rt.nk, fun a C dx k rv fv e => ?_⟩
    · by_cases hb : Q = P
      · subst hb; exact h.tb
      · obtain ⟨us, a1, a2, a3⟩ := rt.tabs Q hQ
        refine ⟨us, h.kp _ _ hb a1, a2, fun p cv hc => ?_⟩
        obtain ⟨c0, e1, e2⟩ := a3 p cv hc
        exact ⟨c0, e1, h.kp _ _ (fun z => by rw [z, p1] at e2; cases e2) e2⟩
    · obtain ⟨rule, first, m, vs, h1, h2, h3, h4, h5⟩ := rt.at_ a C dx k rv fv e
      exact ⟨rule, first, m, vs, h1, h2, h.kp _ _ (fun z => by rw [z, p1] at h3; cases h3) h3, h4, h5⟩
end
end DL
namespace DL
open PySem L2 NdefX LamX
section
variable {M : Model} {A : Around} {E : Value → Shared → Prop} {s : Shared}
end
structure NScC (N ps fr : List Str) (sc : Scope) : Prop where
  kind : sc.kind = .function
  co : sc.isCoroutine = false
  gen : sc.isGenerator = false
  nd : N.Nodup
  pre : N.take (ps.length + fr.length) = ps ++ fr
  par : ∀ x ∈ ps, sc.names.lookup x = some .local
  cel : ∀ y ∈ sc.names, y.2 = .cell → sc.names.lookup y.1 = some .cell
  free : ∀ y ∈ sc.names, y.2 = .free → y.1 ∈ fr
  frk : ∀ x ∈ fr, sc.names.lookup x = some .free
section
variable {CX : CXT} {P : Program} {w : World} {K : PySem.W.Frag} {mg : Str → Option Value} {base : Heap} {N ps fr : List Str} {F : NF} {f : Addr} {A : Around} {outer : List PySem.Env} {s : Shared} {H : Hp} {E : XK} {us : List Value} {vs : List V} {ws : List (Option V)}
end
end DL
namespace DL
open PySem L2 NdefX LamX
section
variable {P : Program} {w : World} {K : PySem.W.Frag} {mg : Str → Option Value} {base : Heap} {N ps fr : List Str} {F : NF} {f : Addr} {k n : Nat} {HfE : Hp}
end
section
variable {c : Cn} {X : Cx} {e : Expr} {es : List Expr} {pos : Pos} {K : PySem.W.Frag} {H0 H H' Hf Hf' : Hp}
end
end DL
namespace DL
open PySem L2
def keyS (e : DictEntry) : Bool := match e.key with
  | .str _ _ => true
  | _ => false
def nsNone (K : PySem.W.Frag) (a : Addr) (x : Str) : Bool := match K.lookup a with
  | some ⟨_, _, .dict es _, _⟩ => es.toList.all keyS && (es.toList.find? (·.key.isStr x)).isNone
  | _ => false
def modB (K : PySem.W.Frag) : Bool := match PySem.W.nsIn K mainGlobals "__builtins__" with
  | some (some (.ref bm)) => (match K.lookup bm with
    | some ⟨.type "module", some d, _, _⟩ => d == builtinsNs
    | _ => false)
  | _ => false
def seerB (K : PySem.W.Frag) : Bool := nsNone K cStatics "sys.audit-hooks" && (nsNone K cStatics "sys.dict" && (nsNone K sysModules "_pylong" && modB K))
structure Wd (X : Cx) : Prop where
  st : ∃ env l, X.stack = env :: l ∧ env.scope.isGenerator = false ∧ env.scope.isCoroutine = false ∧ env.builtins = builtinsNs ∧ env.globals = mainGlobals
  tree : X.prog.given.tree = none
  seer : seerB X.K = true
section
variable {c : Cn} {X : Cx} {a b e : Expr} {es : List Expr} {fa fb : FE} {pos : Pos} {fs : Env → Res (List O)} {K : PySem.W.Frag} {k : Nat}
theorem Wd.blk {scope : Scope} {s : Shared} {H : Hp} {C : Addr} {cl : List (Str × Addr)} {fp : List Addr} (W : Wd X) : Wd (blkE X scope s H C cl fp) := ⟨W.st, W.tree, W.seer⟩
end
theorem Wd.fn {CX : CXT} {P : Program} {w : World} {K : PySem.W.Frag} {mg : Str → Option Value} {base : Heap} {N : List Str} {qual : Str} {scope : Scope} {f : Addr} {cd : Value} {A : Around} {outer : List PySem.Env} {s : Shared} {H : Hp} {E : XK}
    (hs : seerB K = true) (ht : P.given.tree = none) (h1 : scope.isGenerator = false) (h2 : scope.isCoroutine = false) : Wd (cxOf CX P w K mg base N qual scope f cd A outer s H E) := ⟨⟨_, _, rfl, h1, h2, rfl, rfl⟩, ht, hs⟩
theorem Wd.nox {X : Cx} (W : Wd X) : Wd X.nox := ⟨W.st, W.tree, W.seer⟩
end DL
namespace DL
open PySem L2 NdefX LamX
section
variable {P : Program} {w : World} {K : PySem.W.Frag} {mg : Str → Option Value} {base : Heap} {x qual : Str} {params : Arguments} {body : List Stmt} {scope : Scope} {fd : FuncData} {N ps : List Str} {k n : Nat}
end
end DL
namespace DL
open PySem L2 NdefX LamX
section
variable {c : Cn} {X : Cx} {K : PySem.W.Frag} {e : Expr} {f : FE}
end
end DL
namespace DL
open PySem L2
end DL
namespace DL
open PySem L2
end DL
namespace DL
open PySem L2
section
variable {X : Cx} {pins : List (Addr × Obj)} {σ : St} {H : Hp} {s : Shared} {d : Addr} {o : Obj}
theorem Inv_frzTv {kvs : List (List Key × V)} (I : Inv X pins σ H s) (h : H d = some (.frz o (.dT kvs))) :
    (d == sysModules) = false ∧ s.heap.get? d = some o ∧ o.ExactDict ∧ ∃ (es : Array DictEntry) (ep : Nat), o.data = .dict es ep ∧ es.size = kvs.length ∧
      ∀ (i : Nat) (k : List Key) (v : V), kvs[i]? = some (k, v) → ∃ (en : DictEntry) (q : Addr), es[i]? = some en ∧ en.key = .ref q ∧ H q = some (.tup (k.map kV)) ∧ RelV v en.val := by
  obtain ⟨hd, z, hs, xs, pr, o', es, ep, ho, hx, hdt, he, _⟩ := I.hok d _ h
  rw [hd] at ho
  cases ho
  refine ⟨hs, hd, hx, es, ep, hdt, ?_, fun i k v e => ?_⟩
  · have l1 : es.size = xs.length := size_of_entries he
    have l2 : kvs.length = xs.length := Paired.length pr
    omega
  · obtain ⟨b, hb, e1, e2, e3⟩ := paired_get pr e
    have q := entry_at he i
    rw [hb] at q
    exact ⟨_, b.2.1, q, rfl, e2, e3⟩
end
def ItiT (d : Addr) (o : Obj) (kvs : List (List Key × V)) : It :=
  ⟨fun i H => H d = some (.frz o (.dT kvs)) ∧ i < kvs.length, fun i H x H' => ∃ T k v q, kvs[i]? = some (k, v) ∧ H q = some (.tup (k.map kV)) ∧ x = .ref T ∧ H T = none ∧ H' = upd H T (.tup [.ref q, v]), fun i H => H d = some (.frz o (.dT kvs)) ∧ kvs.length ≤ i⟩
section
variable {P : Program} {w : World} {K : PySem.W.Frag} {d : Addr} {o : Obj} {es : Array DictEntry} {ep : Nat}
theorem turn_itemsT {kvs : List (List Key × V)} {elts : List Expr} {kk : Nat} {tpos : Pos} (it : Addr) (hod : o.data = .dict es ep) :
    Turn P w K (.Tuple elts kk tpos) (ItiT d o kvs) [it] it (fun i h => ∃ ok ov, IsItemIter h it d i kvs.length ep ok ov) where
  mem := by simp
  obj := fun i h st b hb => by
    have e : b = it := by simpa using hb
    subst e
    obtain ⟨ok, ov, e⟩ := st
    exact ⟨_, e, fun v z => nomatch z⟩
  keep := fun i h h' st k => let ⟨ok, ov, e⟩ := st; ⟨ok, ov, k it (by simp) _ e⟩
  item := by
    intro X hP hw hK hc i pins s σ H E I hf st hg
    subst hP hw hK
    obtain ⟨hd, hi⟩ := hg
    obtain ⟨hs, hgd, hx, es', ep', hdt, hsz, ent⟩ := Inv_frzTv I hd
    obtain ⟨rfl, rfl⟩ := dict_ep hod hdt
    obtain ⟨⟨k, v⟩, hkv⟩ : ∃ p, kvs[i]? = some p := ⟨kvs[i], List.getElem?_eq_getElem hi⟩
    obtain ⟨en, q, hen, hkey, hq, hv⟩ := ent i k v hkv
    obtain ⟨ok, ov, he⟩ := st
    rw [← hsz] at he
    have hlt : it < s.heap.objs.size := Heap.lt_size he
    have hi2 : i < es'.size := by omega
    have hen2 : es'[i] = en := by
      rw [Array.getElem?_eq_getElem hi2] at hen
      exact Option.some.inj hen
    refine DT.nextI he ⟨o, hgd, hx, hod⟩ hi2 fun h' ho hT hz hk => ?_
    rw [hen2] at ho hT
    refine ⟨_, rfl, wpAny_letOwnedTupleGo_items (s := { s with heap := h' }) ho fun h'' he' sb => ?_⟩
    have hT2 : h''.get? s.heap.objs.size = some { cls := .type "tuple", data := .seq #[en.key, en.val] } := (sb.2 _ (Nat.ne_of_gt hlt)).trans hT
    have new : ObjOk X.prog X.w (upd H s.heap.objs.size (.tup [.ref q, v])) h'' s.heap.objs.size (.tup [.ref q, v]) :=
      ⟨by show 2 ≤ sizeLine; decide, [en.key, en.val], .cons (show RelV (.ref q) en.key from hkey) (.cons hv .nil), ⟨_, hT2, rfl, _, rfl⟩⟩
    have I1 : Inv X pins σ (upd H s.heap.objs.size (.tup [.ref q, v])) { s with heap := h'' } :=
      I.turnedNew (t' := s.toks) (ch := [it]) (fun b ob hb e => (sb.2 b (by simpa using hb)).trans (hk b ob (by simpa using hb) e)) hf (Nat.le_refl _) new
    refine ⟨.ref s.heap.objs.size, _, I1, rfl, ⟨_, k, v, q, hkv, hq, rfl, I.hok.fresh (Nat.le_refl _), rfl⟩, ⟨en.key, en.val, ?_⟩, fun b hb => ?_⟩
    · rw [← hsz]; exact he'
    · have e : b = it := by simpa using hb
      rw [e, upd_ne (Nat.ne_of_lt hlt)]
      exact (hf it (by simp)).1
  done := by
    intro X hP hw hK hc i pins s σ H E I hf st hg
    subst hP hw hK
    obtain ⟨hd, hi⟩ := hg
    obtain ⟨f0, f1, f2, f3, f4, f5⟩ := hf it (by simp)
    obtain ⟨hs, hgd, hx, es', ep', hdt, hsz, ent⟩ := Inv_frzTv I hd
    obtain ⟨rfl, rfl⟩ := dict_ep hod hdt
    obtain ⟨ok, ov, he⟩ := st
    rw [← hsz] at he
    exact DT.endI (I.ok.hd hc) he ⟨o, hgd, hx, hod⟩ (by omega) fun h' eb => ⟨rfl, I.turned (t' := s.toks) (fun b ob hb e => eb b ob hb e) f0 f1 f3 f4 f5⟩
  self := fun A i s Q E st h => let ⟨_, _, e⟩ := st; PySem.W.kcp_self e h
end
def iItemsT (td : TE) : TI := fun σ H R => td σ H fun x H1 => ∃ d o kvs, x = .ref d ∧ H1 d = some (.frz o (.dT kvs)) ∧ R (ItiT d o kvs) H1
section
variable {X : Cx} {tg e : Expr} {td : TE} {apos cpos : Pos}
theorem pi_itemsT {elts : List Expr} {kk : Nat} {tpos : Pos} (he : PE X e td) (hbase : attributeBase e "items" X.env (eval e X.env) = eval e X.env := by rfl) (hline : (apos.endLine == cpos.line) = true := by rfl) :
    PI X (.Tuple elts kk tpos) (.Call (.Attribute e "items" apos) [] [] cpos) (iItemsT td) := by
  refine ⟨fun pins s σ H R I h => ?_⟩
  refine wpAny_Call_method (T := "dict") (id := "dict.items") hbase rfl hline F.plainAttrs_dict F.slot_dict_items F.type_dict_items (thn (he.run pins s σ H _ I h) fun u s1 ⟨x, H1, I1, rx, d, o, kvs, ex, hd, q⟩ => ?_)
  subst ex
  obtain rfl : u = Value.ref d := rx
  obtain ⟨hs, hgd, hx, es, ep, hdt, hsz, ent⟩ := Inv_frzTv I1 hd
  have hraw : DT.Raw s1.heap d es ep := ⟨o, hgd, hx, hdt⟩
  refine ⟨hraw.typeIs, fun a e => by cases e; exact ⟨o, hgd, hx.2.1⟩, ?_⟩
  have I2 : Inv X pins σ H1 { s1 with heap := s1.heap.push { cls := .type "dict_items", data := .fields #[.ref d] } } := I1.kept (t' := s1.toks) fun b ob q => Heap.get?_push_of_some _ q
  have fin : wpAny (model X.prog X.w) X.A (pyIter (.ref s1.heap.objs.size)) (PIE X pins σ (.Tuple elts kk tpos) R) X.xe { s1 with heap := s1.heap.push { cls := .type "dict_items", data := .fields #[.ref d] } } := by
    refine DT.iterI (d := d) ⟨_, Heap.get?_push_size _ rfl, rfl, rfl⟩ (hraw.push _) (pi_one (tk := s1.toks) I2 _ (turn_itemsT _ hdt) ⟨.none, .none, ?_⟩ q)
    rw [← hsz]
    exact Heap.get?_push_size _ rfl
  show wpAny _ _ (callWith cpos (.builtin "dict.items") [.ref d] [] []) _ X.xe s1
  exact method_meetsIn F.slot_dict_items F.entry_dict_items rfl (PySem.evalArgs_none ⟨rfl, hraw.typeIs, F.args_dict_items_1 _, _, DT.meetsItems (es := es) (ep := ep) hs, ⟨hraw, fin⟩⟩)
end
end DL
namespace DL
open PySem L2
variable {c : Cn} {X : Cx} {a b e : Expr} {es : List Expr} {f g fa fb : FE} {pos : Pos} {fs : Env → Res (List O)} {K : PySem.W.Frag} {H0 H H' Hf Hf' : Hp} {F G : FS} {st : Stmt} {sts : List Stmt} {ft : Env → Res Bool}
def isDT (kvs : List (List Key × V)) (o : HO) : Prop := o = .dT kvs ∨ ∃ ob, o = .frz ob (.dT kvs)
def Tw (H H' : Hp) : Prop := ∀ a o, H a = some o → ∃ o', H' a = some o' ∧ (o' = o ∨ ∃ kvs, isDT kvs o ∧ isDT kvs o')
theorem Tw.at {p : Addr} {o : HO} (t : Tw H H') (h : H p = some o) (n : ∀ kvs, ¬ isDT kvs o) : H' p = some o := by
  obtain ⟨o', h1, h2 | ⟨kvs, h3, _⟩⟩ := t p o h
  · rw [h1, h2]
  · exact absurd h3 (n kvs)
theorem Tw.rd {p : Addr} {kvs : List (List Key × V)} (t : Tw H H') (h : Rd H p (.dT kvs)) : Rd H' p (.dT kvs) := by
  have go : ∀ o, H p = some o → isDT kvs o → Rd H' p (.dT kvs) := fun o h i => by
    obtain ⟨o', h1, h2 | ⟨kvs', h3, h4⟩⟩ := t p o h
    · subst h2
      rcases i with i | ⟨ob, i⟩
      · exact .inl (by rw [h1, i])
      · exact .inr ⟨ob, by rw [h1, i]⟩
    · have e : kvs' = kvs := by
        rcases i with i | ⟨ob, i⟩ <;> rcases h3 with j | ⟨ob', j⟩ <;> rw [i] at j <;> cases j <;> rfl
      subst e
      rcases h4 with i | ⟨ob, i⟩
      · exact .inl (by rw [h1, i])
      · exact .inr ⟨ob, by rw [h1, i]⟩
  rcases h with h | ⟨ob, h⟩
  · exact go _ h (.inl rfl)
  · exact go _ h (.inr ⟨ob, rfl⟩)
theorem nDT {o : HO} (h : ∀ kvs, o ≠ .dT kvs) (h2 : ∀ ob u, o ≠ .frz ob u) : ∀ kvs, ¬ isDT kvs o := fun kvs z => by
  rcases z with z | ⟨ob, z⟩
  · exact h _ z
  · exact h2 _ _ z
theorem Tw.lst {p : Addr} {xs : List V} (t : Tw H H') (h : H p = some (.lst xs)) : H' p = some (.lst xs) := t.at h (nDT (fun _ z => nomatch z) fun _ _ z => nomatch z)
theorem Tw.tup {p : Addr} {xs : List V} (t : Tw H H') (h : H p = some (.tup xs)) : H' p = some (.tup xs) := t.at h (nDT (fun _ z => nomatch z) fun _ _ z => nomatch z)
theorem Tw.ins {p C dx : Addr} {fs : List (Str × V)} (t : Tw H H') (h : H p = some (.ins C dx fs)) : H' p = some (.ins C dx fs) := t.at h (nDT (fun _ z => nomatch z) fun _ _ z => nomatch z)
theorem Tw.own {p x : Addr} (t : Tw H H') (h : H p = some (.own x)) : H' p = some (.own x) := t.at h (nDT (fun _ z => nomatch z) fun _ _ z => nomatch z)
theorem Tw.xd {p : Addr} {fs : List (Str × V)} (t : Tw H H') (h : H p = some (.xd fs)) : H' p = some (.xd fs) := t.at h (nDT (fun _ z => nomatch z) fun _ _ z => nomatch z)
theorem Tw.dK {p : Addr} {xs : List (Key × V)} (t : Tw H H') (h : H p = some (.dK xs)) : H' p = some (.dK xs) := t.at h (nDT (fun _ z => nomatch z) fun _ _ z => nomatch z)
theorem Tw.ext {p : Addr} {φ : Heap → Prop} (t : Tw H H') (h : H p = some (.ext φ)) : H' p = some (.ext φ) := t.at h (nDT (fun _ z => nomatch z) fun _ _ z => nomatch z)
theorem Tw.tbl {p : Addr} {ps : Array Value} (t : Tw H H') (h : H p = some (.tbl ps)) : H' p = some (.tbl ps) := t.at h (nDT (fun _ z => nomatch z) fun _ _ z => nomatch z)
theorem Tw.fl {p : Addr} {ob : Obj} {xs : List V} (t : Tw H H') (h : H p = some (.frz ob (.lst xs))) : H' p = some (.frz ob (.lst xs)) := t.at h fun kvs z => by
  rcases z with z | ⟨ob, z⟩ <;> cases z
theorem Tw.ne (t : Tw H H') {p : Addr} (h : H p ≠ none) : H' p ≠ none := by
  cases q : H p with
  | none => exact absurd q h
  | some o =>
    obtain ⟨o', h1, _⟩ := t p o q
    rw [h1]; simp
theorem EcR.tw {e : Ec} {cls : Value} {d : Option Addr} (t : Tw H H') (h : EcR K e cls d H) : EcR K e cls d H' := by
  obtain ⟨C, h1, h2, h3⟩ := h
  refine ⟨C, h1, h2, ?_⟩
  cases d with
  | none => exact h3
  | some a => exact ⟨h3.1, t.xd h3.2⟩
theorem PolyAt.tw (t : Tw H H') {p : List Int} {v : V} (h : PolyAt H p v) : PolyAt H' p v := let ⟨a, e1, h1⟩ := h; ⟨a, e1, t.lst h1⟩
theorem FrAt.tw (t : Tw H H') {p : Int × Int} {v : V} (h : FrAt H p v) : FrAt H' p v := let ⟨a, e1, h1⟩ := h; ⟨a, e1, t.tup h1⟩
theorem PolysAt.tw (t : Tw H H') {p : List (List Int)} {v : V} (h : PolysAt H p v) : PolysAt H' p v := let ⟨a, vs, e1, h1, h2⟩ := h; ⟨a, vs, e1, t.lst h1, pairedM h2 fun _ _ z => z.tw t⟩
theorem FrsAt.tw (t : Tw H H') {p : List (Int × Int)} {v : V} (h : FrsAt H p v) : FrsAt H' p v := let ⟨a, vs, e1, h1, h2⟩ := h; ⟨a, vs, e1, t.lst h1, pairedM h2 fun _ _ z => z.tw t⟩
theorem seqL_tw (t : Tw H H') {p : Addr} {xs : List V} (h : SqL K H p xs) : SqL K H' p xs := by
  rcases h with (h | ⟨o, h⟩) | h
  · exact .inl (.inl (t.lst h))
  · exact .inl (.inr ⟨o, t.fl h⟩)
  · exact .inr h
mutual
theorem Rep.tw (e : Tw H H') : ∀ (d : D) (v : V), Rep K H d v → Rep K H' d v
  | .non, _, h => h
  | .bl _, _, h => h
  | .int _, _, h => h
  | .str _, _, h => h
  | .ex _, _, h => by
    obtain ⟨a, e1, cls, d, h1, h2⟩ := h
    refine ⟨a, e1, cls, d, e.at h1 (nDT (fun _ z => ?_) fun _ _ z => ?_), h2.tw e⟩
    · cases d <;> cases z
    · cases d <;> cases z
  | .scr ns, _, h => by
    obtain ⟨a, e1, h1⟩ := h
    exact ⟨a, e1, seqL_tw e h1⟩
  | .lst ds, _, h => by
    obtain ⟨a, vs, e1, h1, h2⟩ := h
    exact ⟨a, vs, e1, e.lst h1, Reps.tw e ds vs h2⟩
  | .tup ds, _, h => by
    obtain ⟨a, vs, e1, h1, h2⟩ := h
    exact ⟨a, vs, e1, e.tup h1, Reps.tw e ds vs h2⟩
  | .obj c ns ds, _, h => by
    obtain ⟨a, dx, vs, e1, h1, h3, h4, h2⟩ := h
    exact ⟨a, dx, vs, e1, e.ins h1, e.own h3, h4, Reps.tw e ds vs h2⟩
  | .row r f, _, h => by
    obtain ⟨a, e1, dx, r', f', k, h1, h2, h3, h4⟩ := h
    exact ⟨a, e1, dx, r', f', k, e.ins h1, e.own h2, h3.tw e, h4.tw e⟩
  | .dct ks ds, _, h => by
    obtain ⟨a, vs, e1, h1, h3, h2⟩ := h
    exact ⟨a, vs, e1, e.rd h1, h3, Reps.tw e ds vs h2⟩
  | .dck ks ds, _, h => by
    obtain ⟨a, vs, e1, h1, h3, h2⟩ := h
    exact ⟨a, vs, e1, e.dK h1, h3, Reps.tw e ds vs h2⟩
theorem Reps.tw (e : Tw H H') : ∀ (ds : List D) (vs : List V), Reps K H ds vs → Reps K H' ds vs
  | [], _, h => h
  | d :: ds, _, h => by
    obtain ⟨v, r, e1, h1, h2⟩ := h
    exact ⟨v, r, e1, Rep.tw e d v h1, Reps.tw e ds r h2⟩
end
mutual
theorem RepV.tw (f : Tw Hf Hf') (e : Tw H H') : ∀ (o : O) (v : V), RepV K Hf H o v → RepV K Hf' H' o v
  | .fz d, v, h => Rep.tw f d v h
  | .ls os, _, h => by
    obtain ⟨a, vs, e1, h1, h2⟩ := h
    exact ⟨a, vs, e1, e.lst h1, RepVs.tw f e os vs h2⟩
  | .tp os, _, h => by
    obtain ⟨a, vs, e1, h1, h2⟩ := h
    exact ⟨a, vs, e1, e.tup h1, RepVs.tw f e os vs h2⟩
  | .ob c ns os, _, h => by
    obtain ⟨a, dx, vs, e1, h1, h3, h4, h2, hn⟩ := h
    exact ⟨a, dx, vs, e1, e.ins h1, e.own h3, h4, RepVs.tw f e os vs h2, hn⟩
  | .dt ks ds, _, h => by
    obtain ⟨a, vs, e1, h1, h3, h2⟩ := h
    exact ⟨a, vs, e1, e.rd h1, h3, Reps.tw f ds vs h2⟩
  | .dk ks ds, _, h => by
    obtain ⟨a, vs, e1, h1, h3, h2⟩ := h
    exact ⟨a, vs, e1, e.dK h1, h3, Reps.tw f ds vs h2⟩
  | .gh o _ _, v, h => RepV.tw f e o v h
theorem RepVs.tw (f : Tw Hf Hf') (e : Tw H H') : ∀ (os : List O) (vs : List V), RepVs K Hf H os vs → RepVs K Hf' H' os vs
  | [], _, h => h
  | o :: os, _, h => by
    obtain ⟨v, r, e1, h1, h2⟩ := h
    exact ⟨v, r, e1, RepV.tw f e o v h1, RepVs.tw f e os r h2⟩
end
mutual
theorem RepO.tw (f : Tw Hf Hf') : ∀ (o : O) (v : V) (L : List Addr), (∀ a ∈ L, ∀ u, H a = some u → H' a = some u) → RepO K Hf H o v L → RepO K Hf' H' o v L
  | .fz d, _, _, _, h => ⟨Rep.tw f d _ h.1, h.2⟩
  | .ls os, _, L, e, h => by
    obtain ⟨a, vs, M, e1, h1, h2, e2⟩ := h
    subst e2
    exact ⟨a, vs, M, e1, e a (by simp) _ h1, RepOs.tw f os vs M (fun b hb => e b (by simp [hb])) h2, rfl⟩
  | .tp os, _, L, e, h => by
    obtain ⟨a, vs, M, e1, h1, h2, e2⟩ := h
    subst e2
    exact ⟨a, vs, M, e1, e a (by simp) _ h1, RepOs.tw f os vs M (fun b hb => e b (by simp [hb])) h2, rfl⟩
  | .ob c ns os, _, L, e, h => by
    obtain ⟨a, dx, vs, M, e1, h1, h3, h4, h2, hn, e2⟩ := h
    subst e2
    exact ⟨a, dx, vs, M, e1, e a (by simp) _ h1, e dx (by simp) _ h3, h4, RepOs.tw f os vs M (fun b hb => e b (by simp [hb])) h2, hn, rfl⟩
  | .dt ks ds, _, L, e, h => by
    obtain ⟨a, vs, e1, h1, h3, h2, e2⟩ := h
    subst e2
    exact ⟨a, vs, e1, e a (by simp) _ h1, h3, Reps.tw f ds vs h2, rfl⟩
  | .dk ks ds, _, L, e, h => by
    obtain ⟨a, vs, e1, h1, h3, h2, e2⟩ := h
    subst e2
    exact ⟨a, vs, e1, e a (by simp) _ h1, h3, Reps.tw f ds vs h2, rfl⟩
  | .gh o a m, _, L, e, h => by
    obtain ⟨L1, L2, h1, h2, e2⟩ := h
    subst e2
    exact ⟨L1, L2, RepO.tw f o _ L1 (fun b hb => e b (by simp [hb])) h1, RepO.tw f m _ L2 (fun b hb => e b (by simp [hb])) h2, rfl⟩
theorem RepOs.tw (f : Tw Hf Hf') : ∀ (os : List O) (vs : List V) (L : List Addr), (∀ a ∈ L, ∀ u, H a = some u → H' a = some u) → RepOs K Hf H os vs L → RepOs K Hf' H' os vs L
  | [], _, _, _, h => h
  | o :: os, _, L, e, h => by
    obtain ⟨v, r, L1, L2, e1, e2, h1, h2⟩ := h
    subst e2
    exact ⟨v, r, L1, L2, e1, rfl, RepO.tw f o v L1 (fun b hb => e b (by simp [hb])) h1, RepOs.tw f os r L2 (fun b hb => e b (by simp [hb])) h2⟩
end
theorem EnvR.tw {H0' : Hp} (f : Tw Hf Hf') (z : Tw H0 H0') (T : Tst H H') : ∀ {r : Env} {s : St} {L : List Addr}, (∀ a ∈ L, ∀ u, H a = some u → H' a = some u) → EnvR K Hf H0 H r s L → EnvR K Hf' H0' H' r s L
  | [], _, _, _, h => h
  | x :: r, _, L, e, h => by
    obtain ⟨y, t, L1, L2, e1, e2, h1, h2⟩ := h
    subst e2
    refine ⟨y, t, L1, L2, e1, rfl, ?_, EnvR.tw f z T (fun b hb => e b (by simp [hb])) h2⟩
    cases x with
    | un => exact h1
    | vl w o =>
      cases y with
      | none => cases w <;> exact h1
      | some v =>
        cases w with
        | true => exact RepO.tw f o v L1 (fun b hb => e b (by simp [hb])) h1
        | false => exact ⟨RepV.tw f z o v h1.1, h1.2⟩
    | me p o =>
      cases y with
      | none => exact h1
      | some v => exact ⟨h1.1, RepO.tw f o v L1 (fun b hb => e b (by simp [hb])) h1.2⟩
    | tq k =>
      cases y with
      | none => exact h1
      | some v => exact let ⟨h2, q, h3, h4⟩ := h1; ⟨h2, q, h3, T _ _ h4⟩
    | lt a o =>
      cases y with
      | none => exact h1
      | some v => exact ⟨h1.1, h1.2.1, RepV.tw f z o v h1.2.2⟩
    | fa a =>
      cases y with
      | none => exact h1
      | some v => exact h1
theorem isKn_nd {o : HO} (h : isKn o) : ∀ kvs, ¬ isDT kvs o := fun kvs z => by
  obtain ⟨φ, e⟩ := isKn_ext h
  rcases z with z | ⟨ob, z⟩ <;> rw [z] at e <;> cases φ <;> cases e
theorem Rows.tw (f : Tw Hf Hf') (f2 : Tw Hf' Hf) (e : Tw H H') {T : List Addr} (h : Rows T Hf H) : Rows T Hf' H' where
  tabs := fun p hp => let ⟨ps, a1, a2, a3⟩ := h.tabs p hp; ⟨ps, e.tbl a1, a2, fun pos cv hc => let ⟨c, e1, e2⟩ := a3 pos cv hc; ⟨c, e1, e.ext e2⟩⟩
  nk := fun p o ho hk => h.nk p o (f2.at ho (isKn_nd hk)) hk
  at_ := fun p C dx k r g hp => by
    obtain ⟨rule, first, m, vs, h1, h2, h3, h4, h5⟩ := h.at_ p C dx k r g (f2.ins hp)
    exact ⟨rule, first, m, vs, h1.tw f, h2.tw f, e.ext h3, pairedM h4 fun _ _ z => z.tw f, fun a' C' dx' r' f' h' => h5 a' C' dx' r' f' (f2.ins h')⟩
end DL
namespace DL
open PySem L2
variable {c : Cn} {X : Cx} {a b e : Expr} {es : List Expr} {f g fa fb : FE} {pos : Pos} {fs : Env → Res (List O)} {K : PySem.W.Frag} {H0 H H' Hf Hf' : Hp} {F G : FS} {st : Stmt} {sts : List Stmt} {ft : Env → Res Bool}
def pt (d : Addr) (w : HO) (H : Hp) : Hp := fun a => if a = d then (match H d with | none => none | some _ => some w) else H a
section
variable {d p : Addr} {w : HO} {kvs : List (List Key × V)}
theorem pt_ne (h : p ≠ d) : pt d w H p = H p := if_neg h
theorem pt_some {o : HO} (h : H d = some o) : pt d w H d = some w := by unfold pt; rw [if_pos rfl, h]
theorem pt_none (h : H d = none) : pt d w H d = none := by unfold pt; rw [if_pos rfl, h]
theorem pt_nn : pt d w H p = none ↔ H p = none := by
  by_cases h : p = d
  · subst h
    cases q : H p with
    | none => rw [pt_none q]
    | some o => rw [pt_some q]; simp
  · rw [pt_ne h]
theorem pt_upd {o : HO} (h : H d = some o) : pt d w H = upd H d w := funext fun p => by
  by_cases e : p = d
  · subst e; rw [pt_some h, upd_same]
  · rw [pt_ne e, upd_ne e]
theorem pt_pt {w' : HO} (h : H d = none ∨ H d = some w) : pt d w (pt d w' H) = H := funext fun p => by
  by_cases e : p = d
  · subst e
    rcases h with h | h
    · rw [pt_none (pt_none h), h]
    · rw [pt_some (pt_some h), h]
  · rw [pt_ne e, pt_ne e]
theorem pt_same (s : Same H H') : Same (pt d w H) (pt d w H') := fun p o h => by
  by_cases e : p = d
  · subst e
    cases q : H p with
    | none => rw [pt_none q] at h; cases h
    | some u => rw [pt_some q] at h; rw [pt_some (s p u q)]; exact h
  · rw [pt_ne e] at h ⊢; exact s p o h
theorem pt_sm (s : Sm H H') : Sm (pt d w H) (pt d w H') := fun p o h => by
  by_cases e : p = d
  · subst e
    cases q : H p with
    | none => rw [pt_none q] at h; cases h
    | some u =>
      rw [pt_some q] at h
      cases q2 : H' p with
      | none => exact absurd q2 (s.ne_none (by rw [q]; simp))
      | some u2 => rw [pt_some q2]; exact .inl h
  · rw [pt_ne e] at h ⊢; exact s p o h
theorem tw_pt (h : ∀ o, H d = some o → isDT kvs o) (hw : isDT kvs w) : Tw H (pt d w H) ∧ Tw (pt d w H) H := by
  constructor
  · intro p o ho
    by_cases e : p = d
    · subst e; exact ⟨w, pt_some ho, .inr ⟨kvs, h o ho, hw⟩⟩
    · exact ⟨o, by rw [pt_ne e]; exact ho, .inl rfl⟩
  · intro p o ho
    by_cases e : p = d
    · subst e
      cases q : H p with
      | none => rw [pt_none q] at ho; cases ho
      | some u =>
        rw [pt_some q] at ho
        cases ho
        exact ⟨u, rfl, .inr ⟨kvs, hw, h u q⟩⟩
    · rw [pt_ne e] at ho; exact ⟨o, ho, .inl rfl⟩
theorem isDT_sm {o : HO} (s : Sm H H') (h : H d = some o) (h2 : ∀ o, H' d = some o → isDT kvs o) : isDT kvs o := by
  rcases s d o h with h1 | ⟨_, o', h1, k1⟩
  · exact h2 o h1
  · exact absurd (h2 o' h1) (isKn_nd k1 kvs)
theorem SR.pt {Hf0 : Hp} {r : Env} {s : St} {L : List Addr} (sr : SR K Hf0 H0 r s Hf H L) (hd : ∀ o, H d = some o → isDT kvs o) (hw : isDT kvs w) (hL : d ∉ L) : SR K (pt d w Hf0) (pt d w H0) r s (pt d w Hf) (pt d w H) L := by
  have d0 : ∀ o, H0 d = some o → isDT kvs o := fun o h => isDT_sm sr.ext.same h hd
  have df : ∀ o, Hf d = some o → isDT kvs o := fun o h => hd o (sr.sub d o h)
  have df0 : ∀ o, Hf0 d = some o → isDT kvs o := fun o h => df o (sr.ext.fsame d o h)
  have ne : ∀ p ∈ L, p ≠ d := fun p hp e => by subst e; exact hL hp
  have rows2 := sr.rows.tw (tw_pt df hw).1 (tw_pt df hw).2 (tw_pt hd hw).1
  refine ⟨⟨pt_sm sr.ext.same, pt_same sr.ext.fsame, pt_same sr.ext.sub, fun p h1 h2 h3 => ?_, fun ht => (sr.ext.rows (ht.tw (tw_pt df0 hw).2 (tw_pt df0 hw).1 (tw_pt d0 hw).2)).tw (tw_pt df hw).1 (tw_pt df hw).2 (tw_pt hd hw).1⟩, sr.env.tw (tw_pt df hw).1 (tw_pt d0 hw).1 (fun p xs h => by
    by_cases e : p = d
    · subst e; rcases hd _ h with z | ⟨_, z⟩ <;> cases z
    · rw [pt_ne e]; exact h) (fun p hp u h => by rw [pt_ne (ne p hp)]; exact h), sr.nd, fun p hp => ?_, fun p hp => ?_, rows2⟩
  · exact sr.ext.keep p (fun z => h1 (pt_nn.mpr z)) (fun z => h2 (pt_nn.mpr z)) (pt_nn.mp h3)
  · exact ⟨pt_nn.mpr (sr.fr p hp).1, pt_nn.mpr (sr.fr p hp).2⟩
  · exact fun z => sr.ok p hp (pt_nn.mp z)
end
theorem SR.storeQ {r : Env} {s : St} {L : List Addr} {i : Nat} {qa : Addr} {k : List Key} (sr : c.SR K r s Hf H L) (hq : H qa = some (.tup (k.map kV))) (hi : i < r.length) : ∃ L1, c.SR K (r.set i (.tq k)) (s.set i (some (.ref qa))) Hf H L1 := by
  obtain ⟨L', h⟩ := sr.unset hi
  obtain ⟨y, A, M, B, h1, h2, h3, h4⟩ := h.env.at (i := i) (x := .un) (by simp [hi])
  have hM : M = [] := h3
  subst hM
  have env := h4 Hf H (.tq k) (some (.ref qa)) [] (Same.refl _) Tst.rf (fun _ _ _ z => z) ⟨rfl, qa, rfl, hq⟩
  rw [List.set_set, List.set_set, ← h2] at env
  exact ⟨L', h.ext, env, h.nd, h.fr, h.ok, h.rows⟩
def forD (m n : Nat) (F : FS) : List (List Key × D) → FS
  | [], r => .nx r
  | p :: ps, r => if m < r.length ∧ n < r.length then (match F ((r.set m (.tq p.1)).set n (.vl true (.fz p.2))) with
    | .nx r' => forD m n F ps r'
    | .ct r' => forD m n F ps r'
    | .bk r' => .nx r'
    | .ret o => .ret o
    | _ => .bad) else .bad
theorem reps_get : ∀ {ds : List D} {vs : List V} {i : Nat} {d : D}, Reps K H ds vs → ds[i]? = some d → ∃ v, vs[i]? = some v ∧ Rep K H d v
  | [], _, i, d, _, e => by simp at e
  | x :: ds, _, 0, d, h, e => by
    obtain ⟨v, r, e1, h1, h2⟩ := h
    subst e1
    simp at e
    subst e
    exact ⟨v, rfl, h1⟩
  | x :: ds, _, i + 1, d, h, e => by
    obtain ⟨v, r, e1, h1, h2⟩ := h
    subst e1
    simp at e
    exact reps_get (i := i) h2 (by simpa using e)
theorem so_forD {i m n : Nat} {tb : TS} {ps : List (List Key × D)} {dd : Addr} {ob : Obj} {ws : List V} {r : Env} {s : St} {L : List Addr} {D : Ends} (hb : SoS c K tb F) (sr : c.SR K r s Hf H L)
    (hi : s[i]? = some (some (.ref dd))) (hst : ∀ Hf2 H2, Same Hf Hf2 → Same Hf2 H2 → Sm c.H0 H2 → H2 dd = some (.frz ob (.dT ((ps.map (·.1)).zip ws))))
    (hr : Reps K Hf (ps.map (·.2)) ws) (q : PostS c K Hf D (forD m n F ps r)) :
    tFor (iItemsT (tVar i)) (gTup K 2 (gCons (gName m) (gCons (gName n) gNil))) tb D s H := by
  have hl : ((ps.map (·.1)).zip ws).length = ps.length := by
    have := Reps.length hr
    simp only [List.length_map] at this
    rw [List.length_zip, List.length_map, this, Nat.min_self]
  refine ⟨.ref dd, hi, dd, ob, _, rfl, hst Hf H (Same.refl _) sr.sub sr.same0, ?_⟩
  refine ⟨fun j w s' H' => w = ps.length - j ∧ j ≤ ps.length ∧ ∃ r' Hf' L', c.SR K r' s' Hf' H' L' ∧ Same Hf Hf' ∧ PostS c K Hf' D (forD m n F (ps.drop j) r'), ⟨ps.length, by simp, Nat.zero_le _, r, Hf, L, sr, Same.refl _, by simpa using q⟩, ?_⟩
  rintro j w s1 H1 ⟨rfl, hle, r1, Hf1, L1, sr1, f1, q1⟩
  have hd := hst Hf1 H1 f1 sr1.sub sr1.same0
  by_cases hlt : j < ps.length
  · rw [List.drop_eq_getElem_cons hlt] at q1
    refine .inr ⟨⟨hd, by rw [hl]; exact hlt⟩, fun s' H' => ∃ r' Hf' L', c.SR K r' s' Hf' H' L' ∧ Same Hf Hf' ∧ PostS c K Hf' D (forD m n F (ps.drop (j + 1)) r'), fun s' H' ⟨r', Hf', L', h⟩ => ⟨ps.length - (j + 1), by omega, rfl, hlt, r', Hf', L', h⟩, fun x H3 hy => ?_⟩
    obtain ⟨T, k, v, qa, hkv, hq, ex, hT, e3⟩ := hy
    subst ex e3
    have hlw : j < ws.length := by
      have := Reps.length hr
      simp only [List.length_map] at this
      omega
    have hkv2 : k = ps[j].1 ∧ v = ws[j] := by
      rw [List.getElem?_eq_getElem (by rw [hl]; exact hlt)] at hkv
      have := Option.some.inj hkv
      simp only [List.getElem_zip, List.getElem_map] at this
      exact ⟨(congrArg Prod.fst this).symm, (congrArg Prod.snd this).symm⟩
    obtain ⟨rfl, rfl⟩ := hkv2
    have hdv : Rep K Hf1 ps[j].2 ws[j] := by
      have := reps_get (Reps.mono f1 _ _ hr) (i := j) (d := ps[j].2) (by simp [hlt])
      obtain ⟨v, h1, h2⟩ := this
      rw [List.getElem?_eq_getElem hlw] at h1
      cases h1; exact h2
    have hqT : qa ≠ T := fun e => by subst e; rw [hT] at hq; cases hq
    have sr3 := sr1.mono (Ext.new (o := .tup [.ref qa, ws[j]]) sr1.sub hT)
    have hq3 : upd H1 T (.tup [.ref qa, ws[j]]) qa = some (.tup (ps[j].1.map kV)) := by rw [upd_ne hqT]; exact hq
    unfold forD at q1
    by_cases hc : m < r1.length ∧ n < r1.length
    case neg => rw [if_neg hc] at q1; exact q1.elim
    rw [if_pos hc] at q1
    obtain ⟨L5, sr5⟩ := sr3.storeQ hq3 hc.1
    obtain ⟨L6, sr6⟩ := sr5.storeA (x := .nw (.fz ps[j].2)) (v := ws[j]) (i := n) (r1 := (r1.set m (.tq ps[j].1)).set n (.vl true (.fz ps[j].2))) hdv (by simp [gN, hc.2])
    refine ⟨T, _, rfl, .inl (.inl upd_same), rfl, .ref qa, _, rfl, ws[j], _, rfl, rfl, ?_⟩
    refine hb _ _ _ _ _ sr6 _ ?_
    cases eF : F ((r1.set m (.tq ps[j].1)).set n (.vl true (.fz ps[j].2))) with
    | nx r2 =>
      rw [eF] at q1
      exact fun s2 Hf2 H2 L2 f2 z => ⟨_, Hf2, L2, z, f1.trans f2, q1.mono f2⟩
    | ct r2 =>
      rw [eF] at q1
      exact fun s2 Hf2 H2 L2 f2 z => ⟨_, Hf2, L2, z, f1.trans f2, q1.mono f2⟩
    | bk r2 =>
      rw [eF] at q1
      exact q1
    | ret o =>
      rw [eF] at q1
      exact q1
    | exc e' r2 => rw [eF] at q1; exact q1.elim
    | bad => rw [eF] at q1; exact q1.elim
  · have e : j = ps.length := by omega
    subst e
    rw [List.drop_length] at q1
    exact .inl ⟨⟨hd, by rw [hl]; exact Nat.le_refl _⟩, q1 s1 Hf1 H1 L1 (Same.refl _) sr1⟩
theorem forD_exc {m n : Nat} : ∀ (ps : List (List Key × D)) (r : Env) (e : Ec) (r' : Env), forD m n F ps r ≠ .exc e r'
  | [], r, e, r' => fun z => by cases z
  | p :: ps, r, e, r' => by
    unfold forD
    split
    · split
      · exact forD_exc ps _ e r'
      · exact forD_exc ps _ e r'
      · exact fun z => by cases z
      · exact fun z => by cases z
      · exact fun z => by cases z
    · exact fun z => by cases z
def tAllS (X : Cx) (sts : List Stmt) : TS := fun D σ H => ∃ t, PSs X sts t ∧ t D σ H
theorem pss_all : PSs X sts (tAllS X sts) := by
  refine ⟨fun pins s σ H D I h => ?_⟩
  obtain ⟨t, p, h⟩ := h
  exact p.run pins s σ H D I h
theorem so_all (h : DSs c X sts F) : SoS c X.K (tAllS X sts) F := fun r s Hf H L sr D q => by
  obtain ⟨t, p, so⟩ := h.ex
  exact ⟨t, p, so r s Hf H L sr D q⟩
def dI (w : Bool) : O → Option (List (List Key × D))
  | .fz (.dct ks xs) => if ks.length = xs.length then some (ks.zip xs) else none
  | .dt ks xs => if w = false ∧ ks.length = xs.length then some (ks.zip xs) else none
  | _ => none
def sForDI (i m n : Nat) (F : FS) : FS := fun r => match r[i]? with
  | some (.vl w o) => (match dI w o with
    | some ps => forD m n F ps r
    | none => .bad)
  | _ => .bad
theorem zip_fst' {α β : Type} {ks : List α} {xs : List β} (h : ks.length = xs.length) : (ks.zip xs).map (·.1) = ks := by
  rw [List.map_fst_zip]; omega
theorem zip_snd' {α β : Type} {ks : List α} {xs : List β} (h : ks.length = xs.length) : (ks.zip xs).map (·.2) = xs := by
  rw [List.map_snd_zip]; omega
def tForDI (K : PySem.W.Frag) (i m n : Nat) (tb : TS) : TS := tFor (iItemsT (tVar i)) (gTup K 2 (gCons (gName m) (gCons (gName n) gNil))) tb
theorem so_forDI {i m n : Nat} {tb : TS} (hb : ∀ c2 : Cn, (c2.W = c.W ∨ c2.W = fun _ _ _ _ => False) → SoS c2 K tb F) : SoS c K (fun D σ H => tForDI K i m n tb D σ H ∨ tLock (tForDI K i m n tb) D σ H) (sForDI i m n F) := fun r s Hf H L sr D q => by
  unfold sForDI at q
  split at q
  case h_2 => exact q.elim
  rename_i w o hi
  split at q
  case h_2 => exact q.elim
  rename_i ps hps
  obtain ⟨v, hv, hrep⟩ := sr.slot hi
  obtain ⟨dd, ws, rfl, hw, hstate⟩ : ∃ dd ws, v = .ref dd ∧ Reps K Hf (ps.map (·.2)) ws ∧ (Rd c.H0 dd (.dT ((ps.map (·.1)).zip ws)) ∨ Rd Hf dd (.dT ((ps.map (·.1)).zip ws))) := by
    obtain ⟨y, _, M, _, hy, _, hs, _⟩ := sr.env.at hi
    rw [hv] at hy
    cases hy
    cases o with
    | fz d =>
      cases d with
      | dct ks xs =>
        simp only [dI] at hps
        split at hps
        · rename_i hl
          cases hps
          obtain ⟨a, vs, e1, h1, h2, h3⟩ := hrep
          exact ⟨a, vs, e1, by rw [zip_snd' hl]; exact h3, .inr (by rw [zip_fst' hl]; exact h1)⟩
        · cases hps
      | _ => cases hps
    | dt ks xs =>
      simp only [dI] at hps
      split at hps
      · rename_i hl
        cases hps
        cases hl.1
        obtain ⟨⟨a, vs, e1, h1, h2, h3⟩, _⟩ := hs
        exact ⟨a, vs, e1, by rw [zip_snd' hl.2]; exact h3, .inl (by rw [zip_fst' hl.2]; exact h1)⟩
      · cases hps
    | _ => cases hps
  generalize hkv : (ps.map (·.1)).zip ws = kvs at hstate
  have hdL : dd ∉ L := fun z => by
    rcases hstate with (h | ⟨_, h⟩) | (h | ⟨_, h⟩)
    · rw [(sr.fr dd z).2] at h; cases h
    · rw [(sr.fr dd z).2] at h; cases h
    · rw [(sr.fr dd z).1] at h; cases h
    · rw [(sr.fr dd z).1] at h; cases h
  have hcase : (∃ ob, (c.H0 dd = some (.frz ob (.dT kvs)) ∨ Hf dd = some (.frz ob (.dT kvs)))) ∨ ((c.H0 dd = some (.dT kvs) ∨ Hf dd = some (.dT kvs)) ∧ H dd = some (.dT kvs)) := by
    rcases hstate with (h | ⟨ob, h⟩) | (h | ⟨ob, h⟩)
    · exact .inr ⟨.inl h, sr.same0.dT h⟩
    · exact .inl ⟨ob, .inl h⟩
    · exact .inr ⟨.inr h, sr.sub _ _ h⟩
    · exact .inl ⟨ob, .inr h⟩
  rcases hcase with ⟨ob, hl⟩ | ⟨hu, hd⟩
  · left
    refine so_forD (hb c (.inl rfl)) sr hv (ob := ob) (fun Hf2 H2 s1 s2 s3 => ?_) hw q
    rw [hkv]
    rcases hl with h | h
    · exact s3.at h (Hk.ne rfl)
    · exact s2 _ _ (s1 _ _ h)
  · right
    refine ⟨dd, .dT kvs, hd, True.intro, fun ob => ?_⟩
    have hDH : ∀ o, H dd = some o → isDT kvs o := fun o h => by rw [hd] at h; cases h; exact .inl rfl
    have wDT : isDT kvs (.frz ob (.dT kvs)) := .inr ⟨ob, rfl⟩
    have uDT : isDT kvs (.dT kvs) := .inl rfl
    have sr' := SR.pt sr hDH wDT hdL
    have dF : ∀ o, Hf dd = some o → o = .dT kvs := fun o h => by
      have := sr.sub _ _ h
      rw [hd] at this; exact (Option.some.inj this).symm
    have d0 : ∀ o, c.H0 dd = some o → o = .dT kvs := fun o h => by
      rcases sr.same0 dd o h with h1 | ⟨_, o', h1, k1⟩
      · rw [hd] at h1; exact (Option.some.inj h1).symm
      · rw [hd] at h1
        obtain ⟨φ, e⟩ := isKn_ext k1
        rw [← Option.some.inj h1] at e; cases φ <;> cases e
    have dF0 : ∀ o, c.Hf0 dd = some o → o = .dT kvs := fun o h => dF o (sr.ext.fsame _ _ h)
    have orn : ∀ {Z : Hp}, (∀ o, Z dd = some o → o = .dT kvs) → Z dd = none ∨ Z dd = some (.dT kvs) := fun {Z} h => by
      cases z : Z dd with
      | none => exact .inl rfl
      | some o => exact .inr (by rw [h o z])
    have hst : ∀ Hf2 H2, Same (pt dd (.frz ob (.dT kvs)) Hf) Hf2 → Same Hf2 H2 → Sm (pt dd (.frz ob (.dT kvs)) c.H0) H2 → H2 dd = some (.frz ob (.dT kvs)) := fun Hf2 H2 s1 s2 s3 => by
      rcases hu with h | h
      · exact s3.at (pt_some h) (Hk.ne rfl)
      · exact s2 _ _ (s1 _ _ (pt_some h))
    have hnL : ∀ {Hf2 : Hp} {L2 : List Addr}, Same (pt dd (.frz ob (.dT kvs)) Hf) Hf2 → (∀ p ∈ L2, Hf2 p = none ∧ pt dd (.frz ob (.dT kvs)) c.H0 p = none) → dd ∉ L2 := fun {Hf2 L2} s1 s2 z => by
      rcases hu with h | h
      · have := (s2 dd z).2; rw [pt_some h] at this; cases this
      · have := (s2 dd z).1; rw [s1 _ _ (pt_some h)] at this; cases this
    have wf := tw_pt (w := .frz ob (.dT kvs)) (H := Hf) (d := dd) (kvs := kvs) (fun o h => .inl (dF o h)) wDT
    rw [← pt_upd hd]
    have key := so_forD (c := ⟨pt dd (.frz ob (.dT kvs)) c.Hf0, pt dd (.frz ob (.dT kvs)) c.H0, fun _ _ _ _ => False⟩) (K := K) (F := F) (i := i) (m := m) (n := n) (tb := tb) (ps := ps) (dd := dd) (ob := ob) (ws := ws) (r := r) (s := s) (L := L)
      (D := ⟨fun σ' H' => H' dd = some (.frz ob (.dT kvs)) ∧ D.nx σ' (upd H' dd (.dT kvs)), fun v H' => H' dd = some (.frz ob (.dT kvs)) ∧ D.rt v (upd H' dd (.dT kvs)), fun σ' H' => H' dd = some (.frz ob (.dT kvs)) ∧ D.bk σ' (upd H' dd (.dT kvs)), fun σ' H' => H' dd = some (.frz ob (.dT kvs)) ∧ D.ct σ' (upd H' dd (.dT kvs))⟩)
      (hb _ (.inr rfl)) sr' hv (by rw [hkv]; exact hst) (Reps.tw wf.1 _ _ hw)
    refine key ?_
    have go : ∀ {r2 : Env} {s2 : St} {Hf2 H2 : Hp} {L2 : List Addr}, Same (pt dd (.frz ob (.dT kvs)) Hf) Hf2 → SR K (pt dd (.frz ob (.dT kvs)) c.Hf0) (pt dd (.frz ob (.dT kvs)) c.H0) r2 s2 Hf2 H2 L2 →
        H2 dd = some (.frz ob (.dT kvs)) ∧ Same Hf (pt dd (.dT kvs) Hf2) ∧ c.SR K r2 s2 (pt dd (.dT kvs) Hf2) (upd H2 dd (.dT kvs)) L2 := fun {r2 s2 Hf2 H2 L2} f2 z => by
      have h1 := hst Hf2 H2 f2 z.sub z.ext.same
      have z2 := SR.pt (d := dd) (w := .dT kvs) (kvs := kvs) z (fun o h => by rw [h1] at h; cases h; exact wDT) uDT (hnL f2 z.fr)
      rw [pt_pt (orn dF0), pt_pt (orn d0), pt_upd h1] at z2
      have f3 := pt_same (d := dd) (w := .dT kvs) f2
      rw [pt_pt (orn dF)] at f3
      exact ⟨h1, f3, z2⟩
    cases eF : forD m n F ps r with
    | nx r2 =>
      rw [eF] at q
      intro s2 Hf2 H2 L2 f2 z
      obtain ⟨h1, f3, z2⟩ := go f2 z
      exact ⟨h1, q _ _ _ _ f3 z2⟩
    | bk r2 =>
      rw [eF] at q
      intro s2 Hf2 H2 L2 f2 z
      obtain ⟨h1, f3, z2⟩ := go f2 z
      exact ⟨h1, q _ _ _ _ f3 z2⟩
    | ct r2 =>
      rw [eF] at q
      intro s2 Hf2 H2 L2 f2 z
      obtain ⟨h1, f3, z2⟩ := go f2 z
      exact ⟨h1, q _ _ _ _ f3 z2⟩
    | ret o =>
      rw [eF] at q
      intro v2 Hf2 H2 L2 f2 x2 h2 n2
      have h1 := hst Hf2 H2 f2 x2.sub x2.same
      have hn := hnL (L2 := L2) f2 fun p hp => ⟨(n2.fr p hp).2.1, (n2.fr p hp).1⟩
      have wDF2 : ∀ o, Hf2 dd = some o → isDT kvs o := fun o h => by
        have := x2.sub _ _ h
        rw [h1] at this; rw [← Option.some.inj this]; exact wDT
      have w2 := tw_pt (w := .dT kvs) (H := Hf2) (d := dd) (kvs := kvs) wDF2 uDT
      have f3 := pt_same (d := dd) (w := .dT kvs) f2
      rw [pt_pt (orn dF)] at f3
      refine ⟨h1, ?_⟩
      rw [← pt_upd h1]
      refine q v2 (pt dd (.dT kvs) Hf2) _ L2 f3 ⟨?_, ?_, pt_same x2.sub, fun p a1 a2 => ?_, fun hr => ?_⟩ (RepO.tw w2.1 o v2 L2 (fun p hp u h => by rw [pt_ne (fun e => by subst e; exact hn hp)]; exact h) h2) ⟨n2.nd, fun p hp => ?_⟩
      · have := pt_sm (d := dd) (w := .dT kvs) x2.same
        rwa [pt_pt (orn d0)] at this
      · have := pt_same (d := dd) (w := .dT kvs) x2.fsame
        rwa [pt_pt (orn dF0)] at this
      · exact fun z => x2.keep p (fun y => a1 (pt_nn.mp y)) (fun y => a2 (pt_nn.mpr y)) (pt_nn.mpr z)
      · have r1 := hr.tw (tw_pt (fun o h => .inl (dF0 o h)) wDT).1 (tw_pt (fun o h => .inl (dF0 o h)) wDT).2 (tw_pt (fun o h => .inl (d0 o h)) wDT).1
        exact (x2.rows r1).tw w2.1 w2.2 (tw_pt (fun o h => by rw [h1] at h; cases h; exact wDT) uDT).1
      · obtain ⟨a1, a2, a3⟩ := n2.fr p hp
        exact ⟨pt_nn.mp a1, pt_nn.mpr a2, fun z => a3 (pt_nn.mp z)⟩
    | exc e' r2 => exact absurd eF (forD_exc ps r e' r2)
    | bad => rw [eF] at q; exact q.elim
theorem ds_forDI {k i m n kk : Nat} {xm xn : Str} {p1 p2 tpos apos cpos : Pos} (B : Bk c X k) (hN : X.N.Nodup) (hi : PE X e (tVar i)) (hm : X.N[m]? = some xm) (hn : X.N[n]? = some xn) (lm : Loc X.env.scope xm) (ln : Loc X.env.scope xn)
    (fm : X.fn xm = true ∨ X.env.scope.names.lookup xm = some .local) (fn' : X.fn xn = true ∨ X.env.scope.names.lookup xn = some .local) (hb : ∀ c2 : Cn, Bk c2 X k → DSs c2 X sts F)
    (hbase : attributeBase e "items" X.env (eval e X.env) = eval e X.env := by rfl) (hline : (apos.endLine == cpos.line) = true := by rfl)
    (h1 : (assignEach [.Name xm p1, .Name xn p2] X.env).length = 2 := by rfl) (h2 : (assignEach [.Name xm p1, .Name xn p2] X.env).findIdx? (·.1) = none := by rfl)
    (h3 : (assignEach [.Name xm p1, .Name xn p2] X.env).map (·.2) = assign (.Name xm p1) X.env :: (assignEach [.Name xn p2] X.env).map (·.2) := by rfl)
    (h4 : (assignEach [.Name xn p2] X.env).map (·.2) = assign (.Name xn p2) X.env :: (assignEach ([] : List Expr) X.env).map (·.2) := by rfl)
    (hs : ∀ x, foldedSetIterable (.Call (.Attribute e "items" apos) [] [] cpos) X.env x = pure x := by intro _; rfl) :
    DS c X (.For (.Tuple [.Name xm p1, .Name xn p2] kk tpos) (.Call (.Attribute e "items" apos) [] [] cpos) sts [] pos) (sForDI i m n F) := by
  have P0 : PS X (.For (.Tuple [.Name xm p1, .Name xn p2] kk tpos) (.Call (.Attribute e "items" apos) [] [] cpos) sts [] pos) (tForDI X.K i m n (tAllS X sts)) :=
    ps_for B.po B.calm (pi_itemsT hi hbase hline) (pg_tup B.calm (pgs_cons (pg_name hN hm lm fm) (pgs_cons (pg_name hN hn ln fn') pgs_nil h4) h3) h1 h2) pss_all hs
  have P1 := ps_lock P0
  refine ⟨_, ⟨fun pins s σ H D I h => ?_⟩, so_forDI (c := c) (K := X.K) (F := F) (i := i) (m := m) (n := n) (tb := tAllS X sts) fun c2 h => so_all (hb c2 ?_)⟩
  · rcases h with h | h
    · exact P0.run pins s σ H D I h
    · exact P1.run pins s σ H D I h
  · rcases h with h | h
    · exact ⟨B.hr, by rw [h]; exact B.tk, B.po, B.calm⟩
    · exact ⟨B.hr, by rw [h]; exact fun u s' ⟨a, B', sI, pins, σ, H, cls, d, e, I, nb, up, sky, na, os, ag, w⟩ => w.elim, B.po, B.calm⟩
end DL
namespace DL
open PySem L2
variable {c : Cn} {X : Cx} {a b e : Expr} {es : List Expr} {f g fa fb : FE} {pos : Pos} {fs : Env → Res (List O)} {K : PySem.W.Frag} {H0 H H' Hf Hf' : Hp} {F G : FS} {st : Stmt} {sts : List Stmt} {ft : Env → Res Bool}
def keyD : D → Option Key
  | .int i => some (.inl i)
  | .str t => some (.inr t)
  | _ => none
def keysD : List D → Option (List Key)
  | [] => some []
  | d :: ds => (keyD d).bind fun k => (keysD ds).map (k :: ·)
def keysO : List O → Option (List Key)
  | [] => some []
  | .fz d :: os => (keyD d).bind fun k => (keysO os).map (k :: ·)
  | _ :: _ => none
def keyO : O → Option (List Key)
  | .fz (.tup ds) => keysD ds
  | .tp os => keysO os
  | _ => none
theorem keyD_rep {d : D} {k : Key} {v : V} (h : keyD d = some k) (r : Rep K H d v) : v = kV k := by
  cases d with
  | int i => cases h; exact r
  | str t => cases h; exact r
  | _ => cases h
theorem keysD_rep : ∀ {ds : List D} {k : List Key} {vs : List V}, keysD ds = some k → Reps K H ds vs → vs = k.map kV
  | [], k, vs, h, r => by cases h; exact r
  | d :: ds, k, vs, h, r => by
    obtain ⟨v, w, e1, h1, h2⟩ := r
    subst e1
    cases e : keyD d with
    | none => simp [keysD, e] at h
    | some x =>
      cases e2 : keysD ds with
      | none => simp [keysD, e, e2] at h
      | some y =>
        simp [keysD, e, e2] at h
        subst h
        rw [keyD_rep e h1, keysD_rep e2 h2]; rfl
theorem keysO_rep : ∀ {os : List O} {k : List Key} {vs : List V}, keysO os = some k → RepVs K Hf H os vs → vs = k.map kV
  | [], k, vs, h, r => by cases h; exact r
  | o :: os, k, vs, h, r => by
    obtain ⟨v, w, e1, h1, h2⟩ := r
    subst e1
    cases o with
    | fz d =>
      cases e : keyD d with
      | none => simp [keysO, e] at h
      | some x =>
        cases e2 : keysO os with
        | none => simp [keysO, e, e2] at h
        | some y =>
          simp [keysO, e, e2] at h
          subst h
          rw [keyD_rep e h1, keysO_rep e2 h2]; rfl
    | _ => simp [keysO] at h
theorem keyO_rep {o : O} {k : List Key} {v : V} (s : Same Hf H) (h : keyO o = some k) (r : RepV K Hf H o v) : ∃ b, v = .ref b ∧ H b = some (.tup (k.map kV)) := by
  cases o with
  | fz d =>
    cases d with
    | tup ds =>
      obtain ⟨a, vs, e1, h1, h2⟩ := r
      exact ⟨a, e1, by rw [s _ _ h1, keysD_rep h h2]⟩
    | _ => cases h
  | tp os =>
    obtain ⟨a, vs, e1, h1, h2⟩ := r
    exact ⟨a, e1, by rw [h1, keysO_rep h h2]⟩
  | _ => cases h
def dctO : O → Option (List (List Key) × List D)
  | .fz (.dct ks ds) => some (ks, ds)
  | .dt ks ds => some (ks, ds)
  | _ => none
theorem dctO_rep {o : O} {ks : List (List Key)} {ds : List D} {v : V} (s : Same Hf H) (h : dctO o = some (ks, ds)) (r : RepV K Hf H o v) : ∃ a vs, v = .ref a ∧ Rd H a (.dT (ks.zip vs)) ∧ ks.length = ds.length ∧ Reps K Hf ds vs := by
  cases o with
  | fz d =>
    cases d with
    | dct ks ds =>
      cases h
      obtain ⟨a, vs, e1, h1, h2, h3⟩ := r
      exact ⟨a, vs, e1, h1.imp (fun z => s _ _ z) (fun ⟨ob, z⟩ => ⟨ob, s _ _ z⟩), h2, h3⟩
    | _ => cases h
  | dt ks ds =>
    cases h
    exact r
  | _ => cases h
def valP : List (List Key) → List D → List Key → Option D
  | k' :: ks, d :: ds, k => if k' = k then some d else valP ks ds k
  | _, _, _ => none
theorem valP_rep : ∀ {ks : List (List Key)} {ds : List D} {vs : List V} {k : List Key}, ks.length = ds.length → Reps K H ds vs → (valP ks ds k = none ∧ valV (ks.zip vs) k = none) ∨ ∃ d v, valP ks ds k = some d ∧ valV (ks.zip vs) k = some v ∧ Rep K H d v
  | [], _, _, k, _, _ => .inl ⟨by simp [valP], rfl⟩
  | k' :: ks, [], _, k, h, _ => by simp at h
  | k' :: ks, d :: ds, _, k, h, r => by
    obtain ⟨v, w, e1, h1, h2⟩ := r
    subst e1
    by_cases e : k' = k
    · exact .inr ⟨d, v, by simp [valP, e], valV_pos (p := (k', v)) e, h1⟩
    · have ih := valP_rep (k := k) (by simpa using h) h2
      rw [List.zip_cons_cons, valV_neg (p := (k', v)) e]
      simp only [valP, if_neg e]
      exact ih
def eDNew : FE := fun _ => .ok (.nw (.dt [] []))
theorem de_dnew : DE c X (.Dict [] [] pos) eDNew := ⟨tDNewT, pe_dnewT, fun r s Hf H L sr Q q p hp => q (.ref p) Hf _ [p] (Ext.new sr.sub hp) ⟨p, [], rfl, upd_same, rfl, rfl, rfl⟩
  ⟨by simp, fun x hx => by
    have e : x = p := by simpa using hx
    subst e
    exact ⟨hp, sub_none sr.sub hp, by rw [upd_same]; simp⟩⟩⟩
def eDGet2 (i : Nat) (g : FE) (n : Int) : FE := fun r => match r[i]? with
  | some (.vl _ o) => (match dctO o with
    | some p => (g r).bind fun y => (match keyO y.a with
      | some k => .ok (.nw (.fz ((valP p.1 p.2 k).getD (.int n))))
      | none => .bad)
    | none => .bad)
  | _ => .bad
theorem de_dget2 {j i : Nat} {n : Int} {o e2 : Expr} {apos cpos : Pos} (B : Bk c X j) (hv : PE X o (tVar i)) (hk : DE c X e g) (hd : PE X e2 (tC (.int n))) (m : M2 X o "get" apos e e2 cpos) : DE c X (.Call (.Attribute o "get" apos) [e, e2] [] cpos) (eDGet2 i g n) := by
  obtain ⟨t, p, s⟩ := hk.ex
  have hu : X.A.units + 1 < cLine := by have := B.hr.un; omega
  refine ⟨tDGet2 (tVar i) t (tC (.int n)), pe_dget2 hu hv p hd m, fun r s' Hf H L sr Q q => ?_⟩
  unfold eDGet2 at q
  split at q
  case h_2 => exact q.elim
  rename_i w o hi
  split at q
  case h_2 => exact q.elim
  rename_i pr ed
  obtain ⟨ks, ds⟩ := pr
  obtain ⟨v, h1, h2⟩ := sr.slot hi
  obtain ⟨da, vs, ev, hr, hl, hrep⟩ := dctO_rep sr.sub ed h2
  subst ev
  refine ⟨.ref da, h1, da, rfl, .inr ⟨_, hr⟩, ?_⟩
  refine s r s' Hf H L sr _ ?_
  cases eg : g r with
  | bad => rw [eg] at q; exact q.elim
  | exc e' => rw [eg] at q; exact q
  | ok y =>
    rw [eg] at q
    simp only [Res.bind] at q
    split at q
    case h_2 => exact q.elim
    rename_i k ek
    intro u Hf1 H1 L1 x1 a1 n1
    have sr1 := sr.mono x1
    have b2 := (a1.argR n1).a sr1.same0
    have x2 := x1.add n1 a1.nq
    obtain ⟨b, eu, hb⟩ := keyO_rep x2.sub ek b2
    subst eu
    have hr1 : Rd H1 da (.dT (ks.zip vs)) := hr.imp (fun z => x1.same.dT z) fun ⟨ob, z⟩ => ⟨ob, x1.same.at z (Hk.ne rfl)⟩
    refine ⟨valV (ks.zip vs) k, .inr ⟨_, k, b, hr1, rfl, hb, rfl⟩, ?_⟩
    rcases valP_rep (k := k) hl (Reps.mono x2.fsame _ _ hrep) with ⟨z1, z2⟩ | ⟨d, v, z1, z2, z3⟩
    · rw [z2]
      rw [z1] at q
      exact q _ _ _ [] x2 ⟨rfl, rfl⟩ nw_nil
    · rw [z2]
      rw [z1] at q
      exact q _ _ _ [] x2 ⟨z3, rfl⟩ nw_nil
def putP {α : Type} : List (List Key) → List α → List Key → α → List (List Key) × List α
  | k' :: ks, x :: xs, k, y => if k' = k then (k' :: ks, y :: xs) else (k' :: (putP ks xs k y).1, x :: (putP ks xs k y).2)
  | _, _, k, y => ([k], [y])
theorem putP_len {α : Type} : ∀ {ks : List (List Key)} {xs : List α} {k : List Key} {y : α}, ks.length = xs.length → (putP ks xs k y).1.length = (putP ks xs k y).2.length
  | [], [], k, y, _ => rfl
  | [], _ :: _, _, _, h => by simp at h
  | _ :: _, [], _, _, h => by simp at h
  | k' :: ks, x :: xs, k, y, h => by
    unfold putP
    split
    · simpa using h
    · simp [putP_len (k := k) (y := y) (show ks.length = xs.length by simpa using h)]
theorem putP_fst {α β : Type} : ∀ {ks : List (List Key)} {xs : List α} {zs : List β} {k : List Key} {y : α} {z : β}, ks.length = xs.length → ks.length = zs.length → (putP ks xs k y).1 = (putP ks zs k z).1
  | [], [], [], _, _, _, _, _ => rfl
  | [], _ :: _, _, _, _, _, h, _ => by simp at h
  | [], [], _ :: _, _, _, _, _, h => by simp at h
  | _ :: _, [], _, _, _, _, h, _ => by simp at h
  | _ :: _, _ :: _, [], _, _, _, _, h => by simp at h
  | k' :: ks, x :: xs, w :: zs, k, y, z, h, h2 => by
    unfold putP
    split
    · rfl
    · simp [putP_fst (k := k) (y := y) (z := z) (show ks.length = xs.length by simpa using h) (show ks.length = zs.length by simpa using h2)]
theorem putP_rep : ∀ {ks : List (List Key)} {ds : List D} {vs : List V} {k : List Key} {d : D} {v : V}, ks.length = ds.length → Reps K H ds vs → Rep K H d v → Reps K H (putP ks ds k d).2 (putP ks vs k v).2
  | [], [], vs, k, d, v, _, h, h2 => by
    have e : vs = [] := h
    subst e
    exact ⟨v, [], rfl, h2, rfl⟩
  | [], _ :: _, _, _, _, _, h, _, _ => by simp at h
  | _ :: _, [], _, _, _, _, h, _, _ => by simp at h
  | k' :: ks, x :: ds, _, k, d, v, hl, h, h2 => by
    obtain ⟨w, r, e1, h3, h4⟩ := h
    subst e1
    unfold putP
    by_cases e : k' = k
    · rw [if_pos e, if_pos e]; exact ⟨v, r, rfl, h2, h4⟩
    · rw [if_neg e, if_neg e]; exact ⟨w, _, rfl, h3, putP_rep (by simpa using hl) h4 h2⟩
theorem putK_zip : ∀ {ks : List (List Key)} {vs : List V} {k : List Key} {v : V}, ks.Nodup → ks.length = vs.length → putK (ks.zip vs) k v = (putP ks vs k v).1.zip (putP ks vs k v).2
  | [], [], k, v, _, _ => rfl
  | [], _ :: _, _, _, _, h => by simp at h
  | _ :: _, [], _, _, _, h => by simp at h
  | k' :: ks, w :: vs, k, v, hn, h => by
    have hn' := List.nodup_cons.mp hn
    unfold putP
    by_cases e : k' = k
    · rw [if_pos e]
      subst e
      unfold putK
      rw [if_pos (by simp)]
      rw [List.zip_cons_cons, List.map_cons, if_pos rfl, List.zip_cons_cons]
      congr 1
      refine (List.map_congr_left fun p hp => ?_).trans (List.map_id _)
      have : p.1 ≠ k' := fun z => hn'.1 (z ▸ (List.of_mem_zip (show (p.1, p.2) ∈ ks.zip vs from hp)).1)
      rw [if_neg this]; rfl
    · rw [if_neg e]
      have ih := putK_zip (k := k) (v := v) hn'.2 (show ks.length = vs.length by simpa using h)
      rw [List.zip_cons_cons, List.zip_cons_cons, ← ih]
      unfold putK
      rw [List.any_cons, decide_eq_false (show ¬ (k', w).1 = k from e), Bool.false_or]
      split
      · rw [List.map_cons, if_neg (show ¬ (k', w).1 = k from e)]
      · rfl
def sDPutL (i : Nat) (f g : FE) : FS := sUse f fun x r => match x.a with
  | .fz d => (match r[i]? with
    | some (.vl true (.dt ks ds)) => sUse g (fun y r => match keyO y.a with
      | some k => if ks.Nodup ∧ ks.length = ds.length ∧ ks.length < 100000 then .nx (r.set i (.vl true (.dt (putP ks ds k d).1 (putP ks ds k d).2))) else .bad
      | none => .bad) r
    | _ => .bad)
  | _ => .bad
theorem ds_dputL {j i : Nat} {o k0 : Expr} {pos' : Pos} (B : Bk c X j) (hv : PE X o (tVar i)) (h : DE c X e f) (hk : DE c X k0 g) (hs : swapsWith e (some (.Subscript o k0 pos')) pos.line X.env = pure false := by rfl) :
    DS c X (.Assign [.Subscript o k0 pos'] e pos) (sDPutL i f g) := by
  obtain ⟨t, p, s⟩ := h.ex
  obtain ⟨t2, p2, s2⟩ := hk.ex
  have hu : X.A.units + 1 < cLine := by have := B.hr.un; omega
  refine ⟨sDPut (tVar i) t2 t, ps_dput hu hv p2 p hs, fun r s' Hf H L sr D q => ?_⟩
  refine s.use sr q fun x v Hf1 H1 L1 x1 sr1 a1 n1 q1 => ?_
  have b2 := (a1.argR n1).a sr1.same0
  have x2 := x1.add n1 a1.nq
  have sr2 := sr.mono x2
  cases ex : x.a with
  | fz d =>
    simp only [ex] at q1
    rw [ex] at b2
    split at q1
    case h_2 => exact q1.elim
    rename_i ks ds hi
    obtain ⟨y0, hy0, _⟩ := sr2.slot hi
    refine ⟨y0, hy0, ?_⟩
    have q2 := q1.mono (addF_nw n1)
    refine s2.use sr2 q2 fun y u Hf3 H3 L3 x3 sr3 a3 n3 q3 => ?_
    have b4 := (a3.argR n3).a sr3.same0
    have x4 := x3.add n3 a3.nq
    have sr4 := sr2.mono x4
    split at q3
    case h_2 => exact q3.elim
    rename_i k ek
    by_cases hc : ks.Nodup ∧ ks.length = ds.length ∧ ks.length < 100000
    case neg => rw [if_neg hc] at q3; exact q3.elim
    rw [if_pos hc] at q3
    obtain ⟨b, eu, hb⟩ := keyO_rep x4.sub ek b4
    subst eu
    obtain ⟨yv, A, M, BB, h1, h2, h3, h4⟩ := sr4.put hi
    rw [hy0] at h1
    cases h1
    obtain ⟨a, vs, e1, k1, k2, k3, k4⟩ := h3
    subst e1 k4
    have lv : ks.length = vs.length := by rw [k2, Reps.length k3]
    have hd : Rep X.K (addF Hf3 H3 L3) d v := Rep.mono x4.fsame _ _ b2
    refine ⟨a, _, rfl, DPut.t k1 hb (by rw [List.length_zip, ← lv, Nat.min_self]; exact Nat.lt_of_lt_of_le hc.2.2 (by decide)), ?_⟩
    rw [putK_zip hc.1 lv]
    refine q3 _ _ _ _ (addF_nw n3) (h4 a _ _ (.vl true (.dt (putP ks ds k d).1 (putP ks ds k d).2)) [a] (by simp) k1 (Hk.ne rfl) (fun _ z => nomatch z) ⟨a, (putP ks vs k v).2, rfl, ?_, putP_len hc.2.1, putP_rep hc.2.1 k3 hd, rfl⟩ (by simp) fun x hx => .inl hx)
    rw [upd_same, putP_fst (z := v) hc.2.1 lv]
  | _ => simp only [ex] at q1; exact q1.elim
end DL
namespace DL
open PySem L2
inductive HT where | z0 | o (h : Nat) | n (l r : HT)
def HT.ins : Nat → Nat → HT → Option HT
  | _, h, .z0 => some (.o h)
  | 0, _, .o _ => none
  | 0, _, .n _ _ => none
  | f + 1, h, .o g => if h = g then none else
    if h % 2 = 0 then (if g % 2 = 0 then (HT.ins f (h / 2) (.o (g / 2))).map fun t => .n t .z0 else some (.n (.o (h / 2)) (.o (g / 2))))
    else (if g % 2 = 0 then some (.n (.o (g / 2)) (.o (h / 2))) else (HT.ins f (h / 2) (.o (g / 2))).map fun t => .n .z0 t)
  | f + 1, h, .n l r => if h % 2 = 0 then (HT.ins f (h / 2) l).map fun t => .n t r else (HT.ins f (h / 2) r).map fun t => .n l t
def HT.mem : Nat → HT → Prop
  | _, .z0 => False
  | h, .o g => h = g
  | h, .n l r => if h % 2 = 0 then HT.mem (h / 2) l else HT.mem (h / 2) r
def HT.all : List Nat → HT → Bool
  | [], _ => true
  | h :: hs, t => match HT.ins 70 h t with
    | none => false
    | some t' => HT.all hs t'
end DL
namespace PySem
open Sem (wp)
section
variable {prog : Program} {w : World} {K : Type} [DecidableEq K] {knd : HeapKind prog w K} {A : Around} {E : Value → Shared → Prop} {s : Shared}
end
end PySem
namespace DL
open PySem L2
variable {c : Cn} {X : Cx} {a b e : Expr} {es : List Expr} {f g fa fb : FE} {pos : Pos} {fs : Env → Res (List O)} {K : PySem.W.Frag} {H0 H H' Hf Hf' : Hp}
end DL
namespace DL
open PySem L2
variable {c : Cn} {X : Cx} {a b e : Expr} {es : List Expr} {f g fa fb : FE} {pos : Pos} {fs : Env → Res (List O)} {K : PySem.W.Frag} {H0 H H' Hf Hf' : Hp} {F G : FS} {st : Stmt} {sts : List Stmt} {ft : Env → Res Bool}
end DL
namespace DL
open PySem L2
variable {c : Cn} {X : Cx} {a b e : Expr} {f g fd : FE} {pos : Pos} {K : PySem.W.Frag} {H0 H H' Hf Hf' : Hp}
theorem Ext.own {p : Addr} {o o' : HO} (sub : Same Hf H) (hp : H p = none) {Hf1 H1 : Hp} (x : Ext Hf (upd H p o) Hf1 H1) (ho : ∀ φ : Hk, o ≠ φ.o) : Hf1 p = none ∧ H1 p = some o ∧ Ext Hf H Hf1 (upd H1 p o') := by
  have hpn := sub_none sub hp
  have hf1 : Hf1 p = none := by
    cases e : Hf1 p with
    | none => rfl
    | some u => exact absurd hpn (x.keep p (by rw [upd_same]; simp) (by rw [e]; simp))
  have h1 : H1 p = some o := x.same.at upd_same ho
  refine ⟨hf1, h1, ⟨fun a u h => ?_, x.fsame, fun a u e => ?_, fun a h1 h2 => ?_, fun h => (x.rows (h.new hp)).set h1 ho⟩⟩
  · have hne := ne_of_none h hp
    have h2 : upd H p o a = some u := by rw [upd_ne hne]; exact h
    rw [upd_ne hne]
    exact x.same a u h2
  · have hne : a ≠ p := fun z => by rw [z, hf1] at e; cases e
    rw [upd_ne hne]; exact x.sub a u e
  · have hne : a ≠ p := fun z => h1 (by rw [z]; exact hp)
    exact x.keep a (by rw [upd_ne hne]; exact h1) h2
end DL
namespace DL
open PySem PySem.Spec PyProof.Rows L2
variable {c : Cn} {X : Cx} {a b e : Expr} {es : List Expr} {f g fa fb : FE} {pos : Pos} {fs : Env → Res (List O)} {K : PySem.W.Frag} {H0 H H' Hf Hf' : Hp} {F G : FS}
theorem Reps.append : ∀ {ds es : List D} {vs ws : List V}, Reps K H ds vs → Reps K H es ws → Reps K H (ds ++ es) (vs ++ ws)
  | [], _, _, _, h, k => by have h' : _ = _ := h; subst h'; exact k
  | d :: ds, _, _, _, h, k => by
    obtain ⟨v, r, e, h1, h2⟩ := h
    subst e
    exact ⟨v, _, rfl, h1, Reps.append h2 k⟩
section
variable {k n : Nat} {m : Str} {tab : List (Str × (List O → Res O))} {apos : Pos} {o : Expr} {fo : FE}
end
end DL
namespace DL
open PySem L2
theorem dict_walkT {prog : Program} {w : World} {K : Type} [DecidableEq K] {knd : HeapKind prog w K} {A : Around} {E : Value → Shared → Prop} {s : Shared} {env : PySem.Env} {keys : List (Option Expr)} {values : List Expr} {pos : Pos} {Q : Value → Shared → Prop} (hu : knd.room A)
    (hall : (keys.all fun x => x.isSome) = true) (hl : keys.length = values.length) (h0 : keys ≠ []) (hlen : keys.length ≤ 15)
    (h : wpAny (model prog w) A (evalPairs (pairTrees keys values env pos)) (fun vs s₁ => ∃ ps, CarriesH knd s₁.heap vs ps ∧ Heap.DictOfH knd s₁.heap s.heap.objs.size [] ∧ ∀ (h' : Heap) (tk : Nat), Heap.DictOfH knd h' s.heap.objs.size (storedAllH [] ps) → Heap.SameBut s.heap.objs.size s₁.heap h' → Q (.ref s.heap.objs.size) { s₁ with heap := h', toks := tk }) E
      { s with heap := s.heap.push { cls := .type "dict", data := .dict #[] } }) : wpAny (model prog w) A (eval (.Dict keys values pos) env) Q E s := by
  have hn := pairTrees_length keys values env pos hall hl
  have hz := zip_pairTrees keys values env pos hall hl
  rw [arm_eval_Dict, hz, dictDisplay_pairs _ (fun he => h0 (List.length_eq_zero_iff.mp (by rw [he] at hn; simpa using hn.symm))) (by omega)]
  refine wpAny_bind (wpAny_standAt (wpAny_bind (wpAny_subDictH hu (by omega) (wpAny_mono h (fun vs s₁ h₁ => ?_) fun _ _ e => e))))
  obtain ⟨ps, hc, hm, hq⟩ := h₁
  exact ⟨ps, hc, hm, fun h' tk a b => wpAny_pure (hq h' tk a b)⟩
abbrev Tri := List Key × Addr × V
def mergeT (ks : List Tri) : List (List Key × V) := ks.foldl (fun acc x => putK acc x.1 x.2.2) []
def tDispT (trs : List (TE × TE)) : TE := fun σ H Q => ∀ p, H p = none → tPairs trs σ (upd H p (.dT [])) fun ps H2 => H2 p = some (.dT []) ∧ ∃ kvs : List Tri, ps = kvs.map (fun x => (.ref x.2.1, x.2.2)) ∧ (∀ x ∈ kvs, H2 x.2.1 = some (.tup (x.1.map kV))) ∧ kvs.length ≤ 15 ∧ Q (.ref p) (upd H2 p (.dT (mergeT kvs)))
theorem carriesT {P : Program} {w : World} {H : Hp} {h : Heap} (ok : HOk P w H h) : ∀ {kvs : List Tri} {ws : List (Value × Value)}, VV (kvs.map fun x => (V.ref x.2.1, x.2.2)) ws → (∀ x ∈ kvs, H x.2.1 = some (.tup (x.1.map kV))) →
    ∃ rs : List (List Key × Addr × Value), CarriesH (tupleKind (mixKind P w)) h ws rs ∧ Paired (fun (x : Tri) r => x.1 = r.1 ∧ x.2.1 = r.2.1 ∧ RelV x.2.2 r.2.2) kvs rs
  | [], ws, r, _ => by cases r; exact ⟨[], trivial, .nil⟩
  | x :: kvs, ws, r, hk => by
    cases r with
    | @cons _ q _ ws' hq t =>
      obtain ⟨rs, h1, h2⟩ := carriesT ok t fun y hy => hk y (List.mem_cons_of_mem _ hy)
      obtain ⟨a, b⟩ := q
      obtain ⟨r1, r2⟩ := hq
      obtain rfl : a = Value.ref x.2.1 := r1
      exact ⟨(x.1, x.2.1, b) :: rs, ⟨rfl, rfl, key_of ok (hk x List.mem_cons_self), h1⟩, .cons ⟨rfl, rfl, r2⟩ h2⟩
theorem KT_merge {H : Hp} : ∀ {kvs : List Tri} {rs : List (List Key × Addr × Value)} {ks : List (List Key × V)} {xs : List (List Key × Addr × Value)}, Paired (fun (x : Tri) r => x.1 = r.1 ∧ x.2.1 = r.2.1 ∧ RelV x.2.2 r.2.2) kvs rs → (∀ x ∈ kvs, H x.2.1 = some (.tup (x.1.map kV))) → KT H ks xs →
    KT H (kvs.foldl (fun acc x => putK acc x.1 x.2.2) ks) (rs.foldl (fun acc p => storedH acc p.1 p.2.1 p.2.2) xs)
  | [], _, ks, xs, r, _, k => by cases r; exact k
  | x :: kvs, _, ks, xs, r, hk, k => by
    cases r with
    | @cons _ q _ rs' hq t =>
      obtain ⟨r1, r2, r3⟩ := hq
      have hx := hk x List.mem_cons_self
      have k' : KT H (putK ks x.1 x.2.2) (storedH xs x.1 x.2.1 q.2.2) := KT.put k x.1 hx r3
      rw [List.foldl_cons, List.foldl_cons, ← r1, ← r2]
      exact KT_merge t (fun y hy => hk y (List.mem_cons_of_mem _ hy)) k'
theorem mergeT_len : ∀ (kvs : List Tri) (ks : List (List Key × V)), (kvs.foldl (fun acc x => putK acc x.1 x.2.2) ks).length ≤ ks.length + kvs.length
  | [], ks => Nat.le_refl _
  | x :: kvs, ks => by
    rw [List.foldl_cons, List.length_cons]
    have h1 := mergeT_len kvs (putK ks x.1 x.2.2)
    have h2 : (putK ks x.1 x.2.2).length ≤ ks.length + 1 := by
      unfold putK
      split
      · rw [List.length_map]; omega
      · rw [List.length_append]; simp
    omega
theorem pe_dispT {X : Cx} {pos : Pos} {keys : List (Option Expr)} {values : List Expr} {trs : List (TE × TE)} (hu : X.A.units < cLine) (h : PPs X pos keys values trs) (hall : (keys.all fun x => x.isSome) = true) (hl : keys.length = values.length) (h0 : keys ≠ []) (h15 : keys.length ≤ 15) : PE X (.Dict keys values pos) (tDispT trs) := by
  refine ⟨fun pins s σ H Q I q => ?_⟩
  have hn := HOk.fresh I.hok (Nat.le_refl s.heap.objs.size)
  have I1 : Inv X pins σ (upd H s.heap.objs.size (.dT [])) { s with heap := s.heap.push { cls := .type "dict", data := .dict #[] } } := Inv.laid (t' := s.toks) I (fun _ _ q => Heap.get?_push_of_some _ q) (Nat.le_refl _) (dt_empty s.heap I.big)
  refine dict_walkT (knd := tupleKind (mixKind X.prog X.w)) hu hall hl h0 h15 (thn (h.run pins _ σ _ _ I1 (q _ hn)) fun ws s2 z => ?_)
  obtain ⟨ps, H2, I2, rel, e, kvs, ep, hk, lk, q2⟩ := z
  subst ep
  obtain ⟨rs, c, pr⟩ := carriesT I2.hok rel hk
  obtain ⟨z, lo, ys, r0, dd⟩ := dt_rd I2.hok (.inl e)
  have ys0 : ys = [] := by cases r0; rfl
  subst ys0
  refine ⟨rs, c, dd, fun h' tk dd' hs => ?_⟩
  have hkt : KT H2 (mergeT kvs) (storedAllH [] rs) := KT_merge pr hk .nil
  have hkt' : KT (upd H2 s.heap.objs.size (.dT (mergeT kvs))) (mergeT kvs) (storedAllH [] rs) := KT.keeps hkt fun b ys hb => by
    have hne : b ≠ s.heap.objs.size := fun z => by rw [z, e] at hb; cases hb
    rw [upd_ne hne]; exact hb
  obtain ⟨o, es, ep, h1, h2, h3, h4, h5, h6⟩ := id dd'
  have hz : (mergeT kvs).length ≤ sizeLine := by
    have := mergeT_len kvs []
    rw [sizeLine_eq]
    unfold mergeT
    simp at this
    omega
  refine ⟨.ref s.heap.objs.size, upd H2 s.heap.objs.size (.dT (mergeT kvs)), d_write I2 (by rw [e]; trivial) hs ⟨o, h1⟩ ?_, rfl, q2⟩
  exact (show ObjOk X.prog X.w _ _ _ (.dT (mergeT kvs)) from ⟨hz, lo, _, hkt', o, es, ep, h1, h2, h3, h4, h6⟩)
variable {c : Cn} {X : Cx} {a b e : Expr} {es : List Expr} {f g fa fb : FE} {pos : Pos} {K : PySem.W.Frag} {H0 H H' Hf Hf' : Hp}
def dspL : List (FE × FE) → Env → Option (List (List Key × D))
  | [], _ => some []
  | p :: ps, r => match p.1 r with
    | .ok y => (match p.2 r with
      | .ok x => (match keyO y.a, x.a with
        | some k, .fz d => (dspL ps r).map ((k, d) :: ·)
        | _, _ => none)
      | _ => none)
    | _ => none
def eDspT (ps : List (FE × FE)) : FE := fun r => match dspL ps r with
  | some kds => if (kds.map (·.1)).Nodup ∧ kds.length ≤ 15 then .ok (.nw (.dt (kds.map (·.1)) (kds.map (·.2)))) else .bad
  | none => .bad
def SoPs (c : Cn) (K : PySem.W.Frag) (trs : List (TE × TE)) (fs : List (FE × FE)) : Prop := ∀ (r : Env) (s : St) (Hf H : Hp) (L : List Addr), c.SR K r s Hf H L → ∀ kds, dspL fs r = some kds → ∀ Q : List (V × V) → Hp → Prop,
  (∀ (Hf2 H2 : Hp) (kvs : List Tri), Ext Hf H Hf2 H2 → kvs.map (·.1) = kds.map (·.1) → (∀ x ∈ kvs, H2 x.2.1 = some (.tup (x.1.map kV))) → Reps K Hf2 (kds.map (·.2)) (kvs.map (·.2.2)) → Q (kvs.map fun x => (.ref x.2.1, x.2.2)) H2) → tPairs trs s H Q
structure DPs (c : Cn) (X : Cx) (pos : Pos) (keys : List (Option Expr)) (values : List Expr) (fs : List (FE × FE)) : Prop where
  ex : ∃ trs, PPs X pos keys values trs ∧ SoPs c X.K trs fs
theorem dps_nil : DPs c X pos [] [] [] := ⟨[], pps_nil, fun r s Hf H L sr kds e Q q => by
  cases e
  exact q Hf H [] (Ext.refl sr.sub) rfl (fun _ h => nomatch h) rfl⟩
theorem dps_cons {k v : Expr} {ks : List (Option Expr)} {vs : List Expr} {fs : List (FE × FE)} (hk : DE c X k g) (hv : DE c X v f) (h : DPs c X pos ks vs fs) : DPs c X pos (some k :: ks) (v :: vs) ((g, f) :: fs) := by
  obtain ⟨tk, pk, sk⟩ := hk.ex
  obtain ⟨tv, pv, sv⟩ := hv.ex
  obtain ⟨trs, ps, ss⟩ := h.ex
  refine ⟨_, pps_cons pk pv ps, fun r s Hf H L sr kds e Q q => ?_⟩
  show tk s H fun x H1 => tv s H1 fun y H2 => tPairs trs s H2 fun ps H3 => Q ((x, y) :: ps) H3
  unfold dspL at e
  cases eg : g r with
  | bad => simp only [eg] at e; cases e
  | exc z => simp only [eg] at e; cases e
  | ok y =>
    cases ef : f r with
    | bad => simp only [eg, ef] at e; cases e
    | exc z => simp only [eg, ef] at e; cases e
    | ok x =>
      simp only [eg, ef] at e
      split at e
      case h_2 => cases e
      rename_i k0 d ek ex
      cases el : dspL fs r with
      | none => rw [el] at e; cases e
      | some l =>
        rw [el] at e
        cases e
        refine sk.runO sr eg fun u Hf1 H1 x1 sr1 a1 => ?_
        have b1 := a1.a sr1.same0
        obtain ⟨b, eu, hb⟩ := keyO_rep sr1.sub ek b1
        subst eu
        refine sv.runO sr1 ef fun w Hf2 H2 x2 sr2 a2 => ?_
        have b2 := a2.a sr2.same0
        rw [ex] at b2
        refine ss r s Hf2 H2 L sr2 l el _ fun Hf3 H3 kvs x3 e1 e2 e3 => ?_
        refine q Hf3 H3 ((k0, b, w) :: kvs) (x1.trans (x2.trans x3)) (by simp [e1]) (fun z hz => ?_) ⟨w, _, rfl, Rep.mono x3.fsame _ _ b2, e3⟩
        rcases List.mem_cons.mp hz with e | hz
        · subst e
          exact x3.same.at (x2.same.at hb (Hk.ne rfl)) (Hk.ne rfl)
        · exact e2 z hz
theorem mergeT_nd : ∀ (kvs : List Tri) (ks : List (List Key × V)), (ks.map (·.1) ++ kvs.map (·.1)).Nodup → kvs.foldl (fun acc x => putK acc x.1 x.2.2) ks = ks ++ kvs.map fun x => (x.1, x.2.2)
  | [], ks, _ => by simp
  | x :: kvs, ks, h => by
    have hx : ¬ x.1 ∈ ks.map (·.1) := fun z => by
      have := (List.nodup_append.mp h).2.2 x.1 z x.1 (by simp)
      exact this rfl
    have e : putK ks x.1 x.2.2 = ks ++ [(x.1, x.2.2)] := putK_new _ (by
      have : ∀ l : List (List Key × V), ¬ x.1 ∈ l.map (·.1) → valV l x.1 = none := fun l => by
        induction l with
        | nil => intro _; rfl
        | cons p l ih =>
          intro hn
          rw [valV_neg (fun z => hn (by simp [z]))]
          exact ih fun z => hn (by simp at z ⊢; exact .inr z)
      exact this ks hx)
    rw [List.foldl_cons, e, mergeT_nd kvs _ (by simpa using h)]
    simp
theorem de_dspT {j : Nat} {keys : List (Option Expr)} {values : List Expr} {fs : List (FE × FE)} (B : Bk c X j) (h : DPs c X pos keys values fs) (hall : (keys.all fun x => x.isSome) = true := by rfl) (hl : keys.length = values.length := by rfl) (h0 : keys ≠ [] := by simp) (h15 : keys.length ≤ 15 := by decide) : DE c X (.Dict keys values pos) (eDspT fs) := by
  obtain ⟨trs, pp, ss⟩ := h.ex
  have hu : X.A.units < cLine := by have := B.hr.un; omega
  refine ⟨tDispT trs, pe_dispT hu pp hall hl h0 h15, fun r s Hf H L sr Q q p hp => ?_⟩
  have x0 : Ext Hf H Hf (upd H p (.dT [])) := Ext.new sr.sub hp
  have sr0 := sr.mono x0
  unfold eDspT at q
  cases e : dspL fs r with
  | none => rw [e] at q; exact q.elim
  | some kds =>
    simp only [e] at q
    by_cases hn : (kds.map (·.1)).Nodup ∧ kds.length ≤ 15
    case neg => rw [if_neg hn] at q; exact q.elim
    rw [if_pos hn] at q
    refine ss r s _ _ L sr0 kds e _ fun Hf2 H2 kvs x2 e1 e2 e3 => ?_
    obtain ⟨hf2, hp2, xx⟩ := Ext.own (o' := .dT (mergeT kvs)) sr.sub hp x2 (Hk.ne rfl)
    have em : mergeT kvs = (kds.map (·.1)).zip (kvs.map (·.2.2)) := by
      unfold mergeT
      rw [mergeT_nd kvs [] (by rw [e1]; simpa using hn.1), ← e1]
      simp [List.zip_map']
    have hlen : kvs.length ≤ 15 := by
      have := congrArg List.length e1
      simp at this
      omega
    refine ⟨hp2, kvs, rfl, e2, hlen, ?_⟩
    rw [em] at xx ⊢
    exact q (.ref p) Hf2 _ [p] xx ⟨p, _, rfl, upd_same, by simp, e3, rfl⟩ ⟨by simp, fun x hx => by
      have e : x = p := by simpa using hx
      subst e
      exact ⟨hp, hf2, by rw [upd_same]; simp⟩⟩
end DL
namespace DL
open PySem L2
variable {c : Cn} {X : Cx} {a b e : Expr} {es : List Expr} {f g fd : FE} {pos : Pos} {K : PySem.W.Frag} {H0 H H' Hf Hf' : Hp}
variable {sts : List Stmt} {F G : FS}
end DL
namespace DL
open PySem L2
variable {c : Cn} {X : Cx} {a b e : Expr} {es : List Expr} {f g fd : FE} {pos : Pos} {K : PySem.W.Frag} {H0 H H' Hf Hf' : Hp}
variable {c : Cn} {X : Cx} {a b e : Expr} {es : List Expr} {f g fd fa fb : FE} {pos : Pos} {K : PySem.W.Frag} {H0 H H' Hf Hf' : Hp}
variable {k : Nat}
end DL
namespace DL
open PySem L2
def iKeysT (td : TE) : TI := fun σ H R => td σ H fun x H1 => ∃ d o kvs, x = .ref d ∧ H1 d = some (.frz o (.dT kvs)) ∧ R (Itkt d o kvs) H1
theorem pi_keysT {X : Cx} {tg e : Expr} {td : TE} {apos cpos : Pos} (he : PE X e td) (hbase : attributeBase e "keys" X.env (eval e X.env) = eval e X.env := by rfl) (hline : (apos.endLine == cpos.line) = true := by rfl) :
    PI X tg (.Call (.Attribute e "keys" apos) [] [] cpos) (iKeysT td) := by
  refine ⟨fun pins s σ H R I h => ?_⟩
  refine wpAny_Call_method (T := "dict") (id := "dict.keys") hbase rfl hline F.plainAttrs_dict F.slot_dict_keys F.type_dict_keys (thn (he.run pins s σ H _ I h) fun u s1 ⟨x, H1, I1, rx, d, o, kvs, ex, hd, q⟩ => ?_)
  subst ex
  obtain rfl : u = Value.ref d := rx
  obtain ⟨hs, hgd, hx, es, ep, hdt, hsz, ent⟩ := Inv_frzTv I1 hd
  have hraw : s1.heap.DictRaw d es ep := ⟨o, hgd, hx, hdt⟩
  refine ⟨hraw.typeIs, fun a e => by cases e; exact ⟨o, hgd, hx.2.1⟩, ?_⟩
  have I2 : Inv X pins σ H1 { s1 with heap := s1.heap.push { cls := .type "dict_keys", data := .fields #[.ref d] } } := I1.kept (t' := s1.toks) fun b ob q => Heap.get?_push_of_some _ q
  have fin : wpAny (model X.prog X.w) X.A (pyIter (.ref s1.heap.objs.size)) (PIE X pins σ tg R) X.xe { s1 with heap := s1.heap.push { cls := .type "dict_keys", data := .fields #[.ref d] } } := by
    refine wpAny_pyIter_keys_raw (d := d) (es := es) (ep := ep) ⟨_, Heap.get?_push_size _ rfl, rfl, rfl⟩ (hraw.push _) (pi_one (tk := s1.toks) I2 _ (turn_keysT _ hdt) ?_ q)
    rw [← hsz]
    exact ⟨_, Heap.get?_push_size _ rfl, rfl, rfl⟩
  show wpAny _ _ (callWith cpos (.builtin "dict.keys") [.ref d] [] []) _ X.xe s1
  exact method_meetsIn F.slot_dict_keys F.entry_dict_keys rfl (PySem.evalArgs_none ⟨rfl, hraw.typeIs, F.args_dict_keys_1 _, _, meets_dict_keys_raw d hs, ⟨⟨es, ep, hraw⟩, fin⟩⟩)
variable {c : Cn} {X : Cx} {a b e : Expr} {es : List Expr} {f g fa fb : FE} {pos : Pos} {fs : Env → Res (List O)} {K : PySem.W.Frag} {H0 H H' Hf Hf' : Hp} {F G : FS} {st : Stmt} {sts : List Stmt} {ft : Env → Res Bool}
def sWalkI (i : Nat) (Wk : List (List Key × D) → FS) : FS := fun r => match r[i]? with
  | some (.vl w o) => (match dI w o with
    | some ps => Wk ps r
    | none => .bad)
  | _ => .bad
def CoreW (c2 : Cn) (K : PySem.W.Frag) (i : Nat) (tI : TS) (Wk : List (List Key × D) → FS) : Prop := ∀ {ps : List (List Key × D)} {dd : Addr} {ob : Obj} {ws : List V} {r : Env} {s : St} {L : List Addr} {Hf H : Hp} {D : Ends}, c2.SR K r s Hf H L → s[i]? = some (some (.ref dd)) →
  (∀ Hf2 H2, Same Hf Hf2 → Same Hf2 H2 → Sm c2.H0 H2 → H2 dd = some (.frz ob (.dT ((ps.map (·.1)).zip ws)))) → Reps K Hf (ps.map (·.2)) ws → PostS c2 K Hf D (Wk ps r) → tI D s H
theorem so_walkI {i : Nat} {tI : TS} {Wk : List (List Key × D) → FS} (core : ∀ c2 : Cn, (c2.W = c.W ∨ c2.W = fun _ _ _ _ => False) → CoreW c2 K i tI Wk) (exc : ∀ ps r e r', Wk ps r ≠ .exc e r') : SoS c K (fun D σ H => tI D σ H ∨ tLock tI D σ H) (sWalkI i Wk) := fun r s Hf H L sr D q => by
  unfold sWalkI at q
  split at q
  case h_2 => exact q.elim
  rename_i w o hi
  split at q
  case h_2 => exact q.elim
  rename_i ps hps
  obtain ⟨v, hv, hrep⟩ := sr.slot hi
  obtain ⟨dd, ws, rfl, hw, hstate⟩ : ∃ dd ws, v = .ref dd ∧ Reps K Hf (ps.map (·.2)) ws ∧ (Rd c.H0 dd (.dT ((ps.map (·.1)).zip ws)) ∨ Rd Hf dd (.dT ((ps.map (·.1)).zip ws))) := by
    obtain ⟨y, _, M, _, hy, _, hs, _⟩ := sr.env.at hi
    rw [hv] at hy
    cases hy
    cases o with
    | fz d =>
      cases d with
      | dct ks xs =>
        simp only [dI] at hps
        split at hps
        · rename_i hl
          cases hps
          obtain ⟨a, vs, e1, h1, h2, h3⟩ := hrep
          exact ⟨a, vs, e1, by rw [zip_snd' hl]; exact h3, .inr (by rw [zip_fst' hl]; exact h1)⟩
        · cases hps
      | _ => cases hps
    | dt ks xs =>
      simp only [dI] at hps
      split at hps
      · rename_i hl
        cases hps
        cases hl.1
        obtain ⟨⟨a, vs, e1, h1, h2, h3⟩, _⟩ := hs
        exact ⟨a, vs, e1, by rw [zip_snd' hl.2]; exact h3, .inl (by rw [zip_fst' hl.2]; exact h1)⟩
      · cases hps
    | _ => cases hps
  generalize hkv : (ps.map (·.1)).zip ws = kvs at hstate
  have hdL : dd ∉ L := fun z => by
    rcases hstate with (h | ⟨_, h⟩) | (h | ⟨_, h⟩)
    · rw [(sr.fr dd z).2] at h; cases h
    · rw [(sr.fr dd z).2] at h; cases h
    · rw [(sr.fr dd z).1] at h; cases h
    · rw [(sr.fr dd z).1] at h; cases h
  have hcase : (∃ ob, (c.H0 dd = some (.frz ob (.dT kvs)) ∨ Hf dd = some (.frz ob (.dT kvs)))) ∨ ((c.H0 dd = some (.dT kvs) ∨ Hf dd = some (.dT kvs)) ∧ H dd = some (.dT kvs)) := by
    rcases hstate with (h | ⟨ob, h⟩) | (h | ⟨ob, h⟩)
    · exact .inr ⟨.inl h, sr.same0.dT h⟩
    · exact .inl ⟨ob, .inl h⟩
    · exact .inr ⟨.inr h, sr.sub _ _ h⟩
    · exact .inl ⟨ob, .inr h⟩
  rcases hcase with ⟨ob, hl⟩ | ⟨hu, hd⟩
  · left
    refine core c (.inl rfl) sr hv (ob := ob) (fun Hf2 H2 s1 s2 s3 => ?_) hw q
    rw [hkv]
    rcases hl with h | h
    · exact s3.at h (Hk.ne rfl)
    · exact s2 _ _ (s1 _ _ h)
  · right
    refine ⟨dd, .dT kvs, hd, True.intro, fun ob => ?_⟩
    have hDH : ∀ o, H dd = some o → isDT kvs o := fun o h => by rw [hd] at h; cases h; exact .inl rfl
    have wDT : isDT kvs (.frz ob (.dT kvs)) := .inr ⟨ob, rfl⟩
    have uDT : isDT kvs (.dT kvs) := .inl rfl
    have sr' := SR.pt sr hDH wDT hdL
    have dF : ∀ o, Hf dd = some o → o = .dT kvs := fun o h => by
      have := sr.sub _ _ h
      rw [hd] at this; exact (Option.some.inj this).symm
    have d0 : ∀ o, c.H0 dd = some o → o = .dT kvs := fun o h => by
      rcases sr.same0 dd o h with h1 | ⟨_, o', h1, k1⟩
      · rw [hd] at h1; exact (Option.some.inj h1).symm
      · rw [hd] at h1
        obtain ⟨φ, e⟩ := isKn_ext k1
        rw [← Option.some.inj h1] at e; cases φ <;> cases e
    have dF0 : ∀ o, c.Hf0 dd = some o → o = .dT kvs := fun o h => dF o (sr.ext.fsame _ _ h)
    have orn : ∀ {Z : Hp}, (∀ o, Z dd = some o → o = .dT kvs) → Z dd = none ∨ Z dd = some (.dT kvs) := fun {Z} h => by
      cases z : Z dd with
      | none => exact .inl rfl
      | some o => exact .inr (by rw [h o z])
    have hst : ∀ Hf2 H2, Same (pt dd (.frz ob (.dT kvs)) Hf) Hf2 → Same Hf2 H2 → Sm (pt dd (.frz ob (.dT kvs)) c.H0) H2 → H2 dd = some (.frz ob (.dT kvs)) := fun Hf2 H2 s1 s2 s3 => by
      rcases hu with h | h
      · exact s3.at (pt_some h) (Hk.ne rfl)
      · exact s2 _ _ (s1 _ _ (pt_some h))
    have hnL : ∀ {Hf2 : Hp} {L2 : List Addr}, Same (pt dd (.frz ob (.dT kvs)) Hf) Hf2 → (∀ p ∈ L2, Hf2 p = none ∧ pt dd (.frz ob (.dT kvs)) c.H0 p = none) → dd ∉ L2 := fun {Hf2 L2} s1 s2 z => by
      rcases hu with h | h
      · have := (s2 dd z).2; rw [pt_some h] at this; cases this
      · have := (s2 dd z).1; rw [s1 _ _ (pt_some h)] at this; cases this
    have wf := tw_pt (w := .frz ob (.dT kvs)) (H := Hf) (d := dd) (kvs := kvs) (fun o h => .inl (dF o h)) wDT
    rw [← pt_upd hd]
    have key := core ⟨pt dd (.frz ob (.dT kvs)) c.Hf0, pt dd (.frz ob (.dT kvs)) c.H0, fun _ _ _ _ => False⟩ (.inr rfl) (ps := ps) (dd := dd) (ob := ob) (ws := ws) (r := r) (s := s) (L := L)
      (D := ⟨fun σ' H' => H' dd = some (.frz ob (.dT kvs)) ∧ D.nx σ' (upd H' dd (.dT kvs)), fun v H' => H' dd = some (.frz ob (.dT kvs)) ∧ D.rt v (upd H' dd (.dT kvs)), fun σ' H' => H' dd = some (.frz ob (.dT kvs)) ∧ D.bk σ' (upd H' dd (.dT kvs)), fun σ' H' => H' dd = some (.frz ob (.dT kvs)) ∧ D.ct σ' (upd H' dd (.dT kvs))⟩)
      sr' hv (by rw [hkv]; exact hst) (Reps.tw wf.1 _ _ hw)
    refine key ?_
    have go : ∀ {r2 : Env} {s2 : St} {Hf2 H2 : Hp} {L2 : List Addr}, Same (pt dd (.frz ob (.dT kvs)) Hf) Hf2 → SR K (pt dd (.frz ob (.dT kvs)) c.Hf0) (pt dd (.frz ob (.dT kvs)) c.H0) r2 s2 Hf2 H2 L2 →
        H2 dd = some (.frz ob (.dT kvs)) ∧ Same Hf (pt dd (.dT kvs) Hf2) ∧ c.SR K r2 s2 (pt dd (.dT kvs) Hf2) (upd H2 dd (.dT kvs)) L2 := fun {r2 s2 Hf2 H2 L2} f2 z => by
      have h1 := hst Hf2 H2 f2 z.sub z.ext.same
      have z2 := SR.pt (d := dd) (w := .dT kvs) (kvs := kvs) z (fun o h => by rw [h1] at h; cases h; exact wDT) uDT (hnL f2 z.fr)
      rw [pt_pt (orn dF0), pt_pt (orn d0), pt_upd h1] at z2
      have f3 := pt_same (d := dd) (w := .dT kvs) f2
      rw [pt_pt (orn dF)] at f3
      exact ⟨h1, f3, z2⟩
    cases eF : Wk ps r with
    | nx r2 =>
      rw [eF] at q
      intro s2 Hf2 H2 L2 f2 z
      obtain ⟨h1, f3, z2⟩ := go f2 z
      exact ⟨h1, q _ _ _ _ f3 z2⟩
    | bk r2 =>
      rw [eF] at q
      intro s2 Hf2 H2 L2 f2 z
      obtain ⟨h1, f3, z2⟩ := go f2 z
      exact ⟨h1, q _ _ _ _ f3 z2⟩
    | ct r2 =>
      rw [eF] at q
      intro s2 Hf2 H2 L2 f2 z
      obtain ⟨h1, f3, z2⟩ := go f2 z
      exact ⟨h1, q _ _ _ _ f3 z2⟩
    | ret o =>
      rw [eF] at q
      intro v2 Hf2 H2 L2 f2 x2 h2 n2
      have h1 := hst Hf2 H2 f2 x2.sub x2.same
      have hn := hnL (L2 := L2) f2 fun p hp => ⟨(n2.fr p hp).2.1, (n2.fr p hp).1⟩
      have wDF2 : ∀ o, Hf2 dd = some o → isDT kvs o := fun o h => by
        have := x2.sub _ _ h
        rw [h1] at this; rw [← Option.some.inj this]; exact wDT
      have w2 := tw_pt (w := .dT kvs) (H := Hf2) (d := dd) (kvs := kvs) wDF2 uDT
      have f3 := pt_same (d := dd) (w := .dT kvs) f2
      rw [pt_pt (orn dF)] at f3
      refine ⟨h1, ?_⟩
      rw [← pt_upd h1]
      refine q v2 (pt dd (.dT kvs) Hf2) _ L2 f3 ⟨?_, ?_, pt_same x2.sub, fun p a1 a2 => ?_, fun hr => ?_⟩ (RepO.tw w2.1 o v2 L2 (fun p hp u h => by rw [pt_ne (fun e => by subst e; exact hn hp)]; exact h) h2) ⟨n2.nd, fun p hp => ?_⟩
      · have := pt_sm (d := dd) (w := .dT kvs) x2.same
        rwa [pt_pt (orn d0)] at this
      · have := pt_same (d := dd) (w := .dT kvs) x2.fsame
        rwa [pt_pt (orn dF0)] at this
      · exact fun z => x2.keep p (fun y => a1 (pt_nn.mp y)) (fun y => a2 (pt_nn.mpr y)) (pt_nn.mpr z)
      · have r1 := hr.tw (tw_pt (fun o h => .inl (dF0 o h)) wDT).1 (tw_pt (fun o h => .inl (dF0 o h)) wDT).2 (tw_pt (fun o h => .inl (d0 o h)) wDT).1
        exact (x2.rows r1).tw w2.1 w2.2 (tw_pt (fun o h => by rw [h1] at h; cases h; exact wDT) uDT).1
      · obtain ⟨a1, a2, a3⟩ := n2.fr p hp
        exact ⟨pt_nn.mp a1, pt_nn.mpr a2, fun z => a3 (pt_nn.mp z)⟩
    | exc e' r2 => exact absurd eF (exc ps r e' r2)
    | bad => rw [eF] at q; exact q.elim
end DL
namespace DL
open PySem L2
variable {c : Cn} {X : Cx} {a b e : Expr} {es : List Expr} {f g fa fb : FE} {pos : Pos} {fs : Env → Res (List O)} {K : PySem.W.Frag} {H0 H H' Hf Hf' : Hp} {F G : FS} {st : Stmt} {sts : List Stmt} {ft : Env → Res Bool}
theorem so_lc_at {wi : TI} {g : TG} {tt : TT} {te : TE} {fir : Res (List R)} {fg : FG} {vs : List Nat} {r : Env} {s : St} {Hf0 H : Hp} {L : List Addr} (sr : c.SR K r s Hf0 H L) (hi : ∀ Q, PostI c K s Hf0 H Q fir → wi s H Q) (hg : SoG c.blk K g fg vs) (ht : SoT c.blk K tt ft) (he : SoE c.blk K te f) :
    ∀ Q, PostE c K s Hf0 H Q (fir.bind fun its => if vs.all (· < r.length) then lcL fg ft f (wipeE r vs) its [] else .bad) → tLc wi g tt te vs s H Q := fun Q q => by
  refine hi _ ?_
  cases ei : fir with
  | bad => simp only [ei, Res.bind] at q; exact q.elim
  | exc e' => simp only [ei, Res.bind] at q; exact q
  | ok its =>
    simp only [ei, Res.bind] at q
    by_cases hvs : vs.all (· < r.length) = true
    · rw [if_pos hvs] at q
      have hv' : ∀ v ∈ vs, v < r.length := fun v hv => of_decide_eq_true (List.all_eq_true.mp hvs v hv)
      intro J Hf1 H1 x1 wk D hD
      have sr1 := sr.mono x1
      have q := (pstE (c := c) (K := K) (s := s) (Q := Q)).mono _ _ _ _ _ x1 q
      refine ⟨fun i m H => m = its.length - i ∧ i ≤ its.length ∧ ∃ Hf acc us M, Ext Hf1 H1 Hf H ∧ H D = some (.lst us) ∧ RepOs K Hf H acc us M ∧ Nw H1 Hf H (D :: M) ∧ PostE c K s Hf1 H1 Q (lcL fg ft f (wipeE r vs) (its.drop i) acc),
        ⟨its.length, by simp, Nat.zero_le _, Hf1, [], [], [], Ext.new sr1.sub hD, upd_same, ⟨rfl, rfl⟩, ⟨by simp, fun a ha => ?_⟩, by simpa using q⟩, ?_⟩
      · have e : a = D := by simpa using ha
        subst e
        exact ⟨hD, sub_none sr1.sub hD, by rw [upd_same]; simp⟩
      rintro i m H ⟨rfl, hle, Hf, acc, us, M, x2, hDl, ha, nw, q⟩
      have sr2 := sr1.mono x2
      obtain ⟨w1, w2⟩ := wk Hf H x2.fsame x2.sub sr2.same0
      by_cases hlt : i < its.length
      · have hit : its[i]? = some its[i] := by simp [hlt]
        obtain ⟨go, yld⟩ := w1 i _ hit
        rw [List.drop_eq_getElem_cons hlt] at q
        refine .inr ⟨go, fun H' => ∃ Hf acc us M, Ext Hf1 H1 Hf H' ∧ H' D = some (.lst us) ∧ RepOs K Hf H' acc us M ∧ Nw H1 Hf H' (D :: M) ∧ PostE c K s Hf1 H1 Q (lcL fg ft f (wipeE r vs) (its.drop (i + 1)) acc),
          fun H' h => ⟨its.length - (i + 1), by omega, rfl, hlt, h⟩, fun x H3 hy => ?_⟩
        obtain ⟨Hf3, x3, a3⟩ := yld x H3 hy
        obtain ⟨Lw, srw, hwl, hsub⟩ := (sr2.mono x3).wipe vs hv'
        unfold lcL at q
        cases eg : fg its[i] (wipeE r vs) with
        | none => rw [eg] at q; exact q.elim
        | some r1 =>
          rw [eg] at q
          dsimp only at q
          refine hg _ x (wipeE r vs) r1 (wipe s vs) Hf3 H3 Lw ⟨srw.ext, srw.env, srw.nd, srw.fr, srw.ok, srw.rows⟩ a3 eg _ fun s1 L1 srb hw => ?_
          refine ⟨by rw [hw, wipe_wipe], ?_⟩
          refine ht r1 s1 Hf3 H3 L1 srb _ ?_
          have keepM : ∀ a ∈ D :: M, H a ≠ none := fun a ha => (nw.fr a ha).2.2
          cases et : ft r1 with
          | bad => rw [et] at q; exact q.elim
          | exc e' => rw [et] at q; exact q.elim
          | ok b =>
            intro Hf4 H4 x4
            cases b with
            | false =>
              rw [et] at q
              have xB := x3.trans x4
              exact ⟨Hf4, acc, us, M, x2.trans xB, xB.same.lst hDl, RepOs.mono xB.fsame acc us M ((RepOs.nx acc us M ha).kp xB.same) ha, ⟨nw.nd, fun a ha => ⟨(nw.fr a ha).1, xB.nf (keepM a ha) (nw.fr a ha).2.1, xB.same.ne_none (keepM a ha)⟩⟩, q⟩
            | true =>
              rw [et] at q
              dsimp only at q
              refine he r1 s1 Hf4 H4 L1 (srb.mono x4) _ ?_
              cases ef : f r1 with
              | bad => rw [ef] at q; exact q.elim
              | exc e' => rw [ef] at q; exact q.elim
              | ok y =>
                rw [ef] at q
                dsimp only at q
                intro v Hf5 H5 L5 x5 a5 n5
                cases y with
                | vw o => exact q.elim
                | bw o => exact q.elim
                | nw o =>
                  simp only [newO] at q
                  by_cases hz : acc.length ≤ 100000
                  · rw [if_pos hz] at q
                    have xB := (x3.trans x4).trans x5
                    have hD5 := xB.same.lst hDl
                    have hl : us.length = acc.length := RepOs.length ha
                    have nD : Hf5 D = none := xB.nf (keepM D List.mem_cons_self) (nw.fr D List.mem_cons_self).2.1
                    have new5 : ∀ a ∈ L5, a ∉ D :: M := fun a h5 hm => (x3.trans x4).same.ne_none (keepM a hm) (n5.fr a h5).1
                    have ndm := List.nodup_cons.mp nw.nd
                    refine ⟨us, hD5, Nat.lt_of_le_of_lt (show us.length ≤ 100000 by omega) (by decide), Hf5, acc ++ [o], us ++ [v], M ++ L5, ⟨fun a u e => ?_, (x2.trans xB).fsame, fun a u e => ?_, (x2.trans xB).keep, fun h => ((x2.trans xB).rows h).set hD5 (Hk.ne rfl)⟩, upd_same, ?_, ⟨?_, fun a ha' => ?_⟩, q⟩
                    · rw [upd_ne (ne_of_none e hD)]; exact (x2.trans xB).same a u e
                    · rw [upd_ne (ne_of_none e nD)]; exact xB.sub a u e
                    · refine RepOs.append (RepOs.mono xB.fsame acc us M (fun a hm u q => ?_) ha) (RepO.mono (Same.refl _) o v L5 (fun a hm u q => ?_) a5)
                      · rw [upd_ne (fun (e : a = D) => ndm.1 (by rw [← e]; exact hm))]; exact (RepOs.nx acc us M ha).kp xB.same a hm u q
                      · rw [upd_ne (fun e => new5 a hm (by rw [e]; exact List.mem_cons_self))]; exact q
                    · refine List.nodup_cons.mpr ⟨fun hm => ?_, List.nodup_append.mpr ⟨ndm.2, n5.nd, fun a h1 b h2 e => ?_⟩⟩
                      · rcases List.mem_append.mp hm with hm | hm
                        · exact ndm.1 hm
                        · exact new5 D hm List.mem_cons_self
                      · subst e; exact new5 a h2 (List.mem_cons_of_mem _ h1)
                    · rcases List.mem_cons.mp ha' with e | hm
                      · subst e
                        exact ⟨hD, nD, by rw [upd_same]; simp⟩
                      · rcases List.mem_append.mp hm with hm | hm
                        · have hm' := List.mem_cons_of_mem D hm
                          exact ⟨(nw.fr a hm').1, xB.nf (keepM a hm') (nw.fr a hm').2.1, by rw [upd_ne (fun (e : a = D) => ndm.1 (by rw [← e]; exact hm))]; exact xB.same.ne_none (keepM a hm')⟩
                        · refine ⟨?_, (n5.fr a hm).2.1, ?_⟩
                          · exact (x2.trans (x3.trans x4)).fresh (n5.fr a hm).1
                          · rw [upd_ne (fun e => new5 a hm (by rw [e]; exact List.mem_cons_self))]; exact (n5.fr a hm).2.2
                  · rw [if_neg hz] at q; exact q.elim
      · have e : i = its.length := by omega
        subst e
        rw [List.drop_length] at q
        exact .inl ⟨w2, q (.ref D) Hf H (D :: M) x2 ⟨D, us, M, rfl, hDl, ha, rfl⟩ nw⟩
    · rw [if_neg hvs] at q; exact q.elim
def gKy (m : Nat) : FG := fun x r => match x with
  | .vw o => (match keyO o with
    | some k => if m < r.length then some (r.set m (.tq k)) else none
    | none => none)
  | _ => none
theorem so_gKy {m : Nat} {vs : List Nat} (hv : m ∈ vs) : SoG c K (gName m) (gKy m) vs := by
  intro x v r r1 s Hf H L sr a1 e Q q
  cases x with
  | nw o => cases e
  | bw o => cases e
  | vw o =>
    simp only [gKy] at e
    cases ek : keyO o with
    | none => rw [ek] at e; cases e
    | some k =>
      rw [ek] at e
      by_cases hm : m < r.length
      · simp only [if_pos hm] at e
        cases e
        obtain ⟨qa, rfl, hq⟩ := keyO_rep sr.sub ek (a1.a sr.ext.same)
        obtain ⟨L1, sr1⟩ := sr.storeQ hq hm
        exact q _ L1 sr1 (wipe_set hv)
      · simp only [if_neg hm] at e; cases e
def maxK (m : Nat) (f : FE) (d : Int) (ps : List (List Key × D)) : FS := fun r => if m < r.length then (match lcL (gKy m) tYesD f (wipeE r [m]) (ps.map fun p => .vw (kO p.1)) [] with
  | .ok (.nw (.ls os)) => (match intsOf os with
    | some ns => .ret (.fz (.int (maxD d ns)))
    | none => .bad)
  | _ => .bad) else .bad
def sMaxK (i m : Nat) (f : FE) (d : Int) : FS := sWalkI i (maxK m f d)
theorem maxK_exc {m : Nat} {f : FE} {d : Int} (ps : List (List Key × D)) (r : Env) (e : Ec) (r' : Env) : maxK m f d ps r ≠ .exc e r' := fun z => by
  unfold maxK at z
  split at z
  · split at z
    · split at z <;> cases z
    · cases z
  · cases z
theorem core_maxK {i m : Nat} {te : TE} {f : FE} {d : Int} (he : ∀ c2 : Cn, SoE c2.blk K te f) : CoreW c K i (tRet (tCKw (rMaxD K d) (tCons (tLc (iKeysT (tVar i)) (gName m) (fun σ H Q => Q true H) te [m]) tNil) (tCons (tC (.int d)) tNil))) (maxK m f d) := fun {ps dd ob ws r s L Hf H D} sr hi hst hr q => by
  have hl : ((ps.map (·.1)).zip ws).length = ps.length := by
    have := Reps.length hr
    simp only [List.length_map] at this
    rw [List.length_zip, List.length_map, this, Nat.min_self]
  have hiQ : ∀ Q, PostI c K s Hf H Q (.ok (ps.map fun p => .vw (kO p.1))) → iKeysT (tVar i) s H Q := fun Q q => by
    refine ⟨.ref dd, hi, dd, ob, _, rfl, hst Hf H (Same.refl _) sr.sub sr.same0, ?_⟩
    refine q _ Hf H (Ext.refl sr.sub) fun Hf2 H2 f1 f2 f3 => ⟨fun j it hj => ?_, hst Hf2 H2 f1 f2 f3, by rw [hl, List.length_map]; exact Nat.le_refl _⟩
    rw [List.getElem?_map] at hj
    obtain ⟨p, hp, rfl⟩ := Option.map_eq_some_iff.mp hj
    obtain ⟨hlt, hpe⟩ := List.getElem?_eq_some_iff.mp hp
    refine ⟨⟨hst Hf2 H2 f1 f2 f3, by rw [hl]; exact hlt⟩, fun x H3 hy => ?_⟩
    obtain ⟨e3, k, v, qa, hkv, ex, hq⟩ := hy
    subst ex e3
    have hkv2 : k = p.1 := by
      rw [List.getElem?_eq_getElem (by rw [hl]; exact hlt)] at hkv
      have := Option.some.inj hkv
      simp only [List.getElem_zip, List.getElem_map] at this
      rw [← hpe]
      exact (congrArg Prod.fst this).symm
    subst hkv2
    exact ⟨Hf2, Ext.refl f2, kO_rep hq⟩
  unfold maxK at q
  by_cases hm : m < r.length
  case neg => rw [if_neg hm] at q; exact q.elim
  rw [if_pos hm] at q
  split at q
  case h_2 => exact q.elim
  rename_i os hos
  split at q
  case h_2 => exact q.elim
  rename_i ns hns
  unfold tRet tCKw tCons
  refine so_lc_at sr hiQ (so_gKy List.mem_cons_self) (ft := tYesD) (fun r s Hf H L sr Q q => q Hf H (Ext.refl sr.sub)) (he c) _ ?_
  show PostE c K s Hf H _ (if [m].all (· < r.length) then lcL (gKy m) tYesD f (wipeE r [m]) (ps.map fun p => .vw (kO p.1)) [] else .bad)
  rw [if_pos (by simp [hm]), hos]
  intro v Hf1 H1 L1 x1 a1 n1
  have sr1 := sr.mono x1
  have a2 : RepV K (addF Hf1 H1 L1) H1 (O.ls os) v := RepV.mono (addF_nw n1) (Sm.refl _) _ _ (RepO.view _ _ _ (a1 : RepO K Hf1 H1 (.ls os) v L1))
  obtain ⟨l, vs, e1, h1, h2⟩ := items_rep (addF_sub sr1.sub) a2 (rfl : items (O.ls os) = some os)
  have h3 := intsOf_rep hns h2
  subst h3
  refine ⟨l, ns, by rw [e1], rfl, h1, fun mx h4 h5 => ?_⟩
  have hmx : mx = maxD d ns := by
    cases ns with
    | nil => exact h4 rfl
    | cons z zs =>
      obtain ⟨g1, g2⟩ := h5 (by simp)
      obtain ⟨k1, k2⟩ := maxL_ge zs z
      have a1 : mx ≤ maxL z zs := by
        rcases List.mem_cons.mp g1 with h | h
        · rw [h]; exact k1
        · exact k2 mx h
      have a2 := g2 _ (maxL_mem zs z)
      exact Int.le_antisymm a1 a2
  subst hmx
  exact q _ Hf1 H1 [] x1.fsame sr1.ext ⟨rfl, rfl⟩ ⟨List.nodup_nil, fun _ h => nomatch h⟩
def tAllK (X : Cx) (scope : Scope) (elt : Expr) : TE := fun σ H Q => ∃ t, (∀ s H0 C cl fp, PE (blkE X scope s H0 C cl fp) elt t) ∧ t σ H Q
theorem ds_maxK {k i m : Nat} {d : Int} {x xm : Str} {elt ed : Expr} {scope : Scope} {p p1 kp apos cpos lpos spos : Pos} (B : Bk c X k) (hN : X.N.Nodup) (hi : PE X e (tVar i)) (ok : BlkOk X.N X.env.scope scope [(xm, m)])
    (hg : Gl X x) (hm : X.mg x = none) (hv : bootBuiltins x = some (.builtin "max")) (hd : PE X ed (tC (.int d))) (hmN : X.N[m]? = some xm) (hml : ∀ s H C cl fp, Loc (blkE X scope s H C cl fp).env.scope xm) (hmf : ∀ s H C cl fp, (blkE X scope s H C cl fp).fn xm = true ∨ (blkE X scope s H C cl fp).env.scope.names.lookup xm = some .local)
    (he : ∀ c2 : Cn, ∀ s H C cl fp, DE c2.blk (blkE X scope s H C cl fp) elt f)
    (hbase : attributeBase e "keys" X.env (eval e X.env) = eval e X.env := by rfl) (hline : (apos.endLine == cpos.line) = true := by rfl)
    (hs : ∀ x, foldedSetIterable (.Call (.Attribute e "keys" apos) [] [] cpos) X.env x = pure x := by intro _; rfl)
    (hn : x ≠ "__name__" := by decide) (hdb : (x == ("__debug__" : Str)) = false := by decide)
    (h1 : backTo pos (starEach [.ListComp elt [⟨.Name xm p1, .Call (.Attribute e "keys" apos) [] [] cpos, [], 0⟩] scope lpos] X.env) = (false, eval (.ListComp elt [⟨.Name xm p1, .Call (.Attribute e "keys" apos) [] [] cpos, [], 0⟩] scope lpos) X.env) :: backTo pos (starEach [] X.env) := by rfl)
    (hpl : (backTo pos (starEach [.ListComp elt [⟨.Name xm p1, .Call (.Attribute e "keys" apos) [] [] cpos, [], 0⟩] scope lpos] X.env)).any (·.1) = false := by rfl)
    (hst : starEach [.ListComp elt [⟨.Name xm p1, .Call (.Attribute e "keys" apos) [] [] cpos, [], 0⟩] scope lpos] X.env = (false, eval (.ListComp elt [⟨.Name xm p1, .Call (.Attribute e "keys" apos) [] [] cpos, [], 0⟩] scope lpos) X.env) :: starEach [] X.env := by rfl)
    (hall : (backToKw pos (keywordEach [⟨some "default", ed, kp⟩] X.env)).all (·.1.isSome) = true := by rfl) (hnone : (backToKw pos (keywordEach [⟨some "default", ed, kp⟩] X.env)).any (·.1.isNone) = false := by rfl)
    (hks : (backToKw pos (keywordEach [⟨some "default", ed, kp⟩] X.env)).filterMap (·.1) = [Str.ofString "default"] := by rfl) :
    DS c X (.Return (some (.Call (.Name x p) [.ListComp elt [⟨.Name xm p1, .Call (.Attribute e "keys" apos) [] [] cpos, [], 0⟩] scope lpos] [⟨some "default", ed, kp⟩] pos)) spos) (sMaxK i m f d) := by
  have P0 : PS X (.Return (some (.Call (.Name x p) [.ListComp elt [⟨.Name xm p1, .Call (.Attribute e "keys" apos) [] [] cpos, [], 0⟩] scope lpos] [⟨some "default", ed, kp⟩] pos)) spos) (tRet (tCKw (rMaxD X.K d) (tCons (tLc (iKeysT (tVar i)) (gName m) (fun σ H Q => Q true H) (tAllK X scope elt) [m]) tNil) (tCons (tC (.int d)) tNil))) :=
    ps_ret (pe_callBK (cr_maxD B.calm) hg hm hv (pa_cons (pe_lc (own := [(xm, m)]) B.calm hN (pi_keysT hi hbase hline) ok (fun s H C cl fp => pg_name hN hmN (hml s H C cl fp) (hmf s H C cl fp)) (fun _ _ _ _ _ => pts_nil) (fun s H C cl fp => ⟨fun pins s' σ H Q I h => by
      obtain ⟨t, p, h⟩ := h
      exact (p s _ C cl fp).run pins s' σ H Q I h⟩) hs) pa_nil hst) (pk_cons hd pk_nil) hn hdb h1 hpl hall hnone hks)
  have P1 := ps_lock P0
  refine ⟨_, ⟨fun pins s σ H D I h => ?_⟩, so_walkI (c := c) (K := X.K) (i := i) (tI := tRet (tCKw (rMaxD X.K d) (tCons (tLc (iKeysT (tVar i)) (gName m) (fun σ H Q => Q true H) (tAllK X scope elt) [m]) tNil) (tCons (tC (.int d)) tNil))) (Wk := maxK m f d) (fun c2 h => core_maxK fun c3 => ?_) maxK_exc⟩
  · rcases h with h | h
    · exact P0.run pins s σ H D I h
    · exact P1.run pins s σ H D I h
  · obtain ⟨t, p, so⟩ := all_E (he c3)
    exact fun r s Hf H L sr Q q => ⟨t, p, so r s Hf H L sr Q q⟩
def forDk2 (a b : Nat) (F : FS) : List (List Key × D) → FS
  | [], r => .nx r
  | p :: ps, r => match p.1 with
    | [.inl x, .inl y] => if a < r.length ∧ b < r.length then (match F ((r.set a (.vl true (.fz (.int x)))).set b (.vl true (.fz (.int y)))) with
      | .nx r' => forDk2 a b F ps r'
      | .ct r' => forDk2 a b F ps r'
      | .bk r' => .nx r'
      | .ret o => .ret o
      | _ => .bad) else .bad
    | _ => .bad
theorem forDk2_exc {a b : Nat} : ∀ (ps : List (List Key × D)) (r : Env) (e : Ec) (r' : Env), forDk2 a b F ps r ≠ .exc e r'
  | [], r, e, r' => fun z => by cases z
  | p :: ps, r, e, r' => by
    unfold forDk2
    split
    · split
      · split
        · exact forDk2_exc ps _ e r'
        · exact forDk2_exc ps _ e r'
        · exact fun z => by cases z
        · exact fun z => by cases z
        · exact fun z => by cases z
      · exact fun z => by cases z
    · exact fun z => by cases z
theorem core_forDk2 {i a b : Nat} {tb : TS} (hb : SoS c K tb F) : CoreW c K i (tFor (iKeysT (tVar i)) (gTup K 2 (gCons (gName a) (gCons (gName b) gNil))) tb) (forDk2 a b F) := fun {ps dd ob ws r s L Hf H D} sr hi hst hr q => by
  have hl : ((ps.map (·.1)).zip ws).length = ps.length := by
    have := Reps.length hr
    simp only [List.length_map] at this
    rw [List.length_zip, List.length_map, this, Nat.min_self]
  refine ⟨.ref dd, hi, dd, ob, _, rfl, hst Hf H (Same.refl _) sr.sub sr.same0, ?_⟩
  refine ⟨fun j w s' H' => w = ps.length - j ∧ j ≤ ps.length ∧ ∃ r' Hf' L', c.SR K r' s' Hf' H' L' ∧ Same Hf Hf' ∧ PostS c K Hf' D (forDk2 a b F (ps.drop j) r'), ⟨ps.length, by simp, Nat.zero_le _, r, Hf, L, sr, Same.refl _, by simpa using q⟩, ?_⟩
  rintro j w s1 H1 ⟨rfl, hle, r1, Hf1, L1, sr1, f1, q1⟩
  have hd := hst Hf1 H1 f1 sr1.sub sr1.same0
  by_cases hlt : j < ps.length
  · rw [List.drop_eq_getElem_cons hlt] at q1
    refine .inr ⟨⟨hd, by rw [hl]; exact hlt⟩, fun s' H' => ∃ r' Hf' L', c.SR K r' s' Hf' H' L' ∧ Same Hf Hf' ∧ PostS c K Hf' D (forDk2 a b F (ps.drop (j + 1)) r'), fun s' H' ⟨r', Hf', L', h⟩ => ⟨ps.length - (j + 1), by omega, rfl, hlt, r', Hf', L', h⟩, fun x H3 hy => ?_⟩
    obtain ⟨e3, k, v, qa, hkv, ex, hq⟩ := hy
    subst ex e3
    have hkv2 : k = ps[j].1 := by
      rw [List.getElem?_eq_getElem (by rw [hl]; exact hlt)] at hkv
      have := Option.some.inj hkv
      simp only [List.getElem_zip, List.getElem_map] at this
      exact (congrArg Prod.fst this).symm
    subst hkv2
    unfold forDk2 at q1
    split at q1
    case h_2 => exact q1.elim
    rename_i u v2 ek
    by_cases hc : a < r1.length ∧ b < r1.length
    case neg => rw [if_neg hc] at q1; exact q1.elim
    rw [if_pos hc] at q1
    rw [ek] at hq
    obtain ⟨L5, sr5⟩ := sr1.storeA (x := .nw (.fz (.int u))) (v := V.int u) (i := a) (r1 := r1.set a (.vl true (.fz (.int u)))) rfl (by simp [gN, hc.1])
    obtain ⟨L6, sr6⟩ := sr5.storeA (x := .nw (.fz (.int v2))) (v := V.int v2) (i := b) (r1 := (r1.set a (.vl true (.fz (.int u)))).set b (.vl true (.fz (.int v2)))) rfl (by simp [gN, hc.2])
    refine ⟨qa, _, rfl, .inl (.inl hq), rfl, V.int u, _, rfl, V.int v2, _, rfl, rfl, ?_⟩
    refine hb _ _ _ _ _ sr6 _ ?_
    cases eF : F ((r1.set a (.vl true (.fz (.int u)))).set b (.vl true (.fz (.int v2)))) with
    | nx r2 =>
      rw [eF] at q1
      exact fun s2 Hf2 H2 L2 f2 z => ⟨_, Hf2, L2, z, f1.trans f2, q1.mono f2⟩
    | ct r2 =>
      rw [eF] at q1
      exact fun s2 Hf2 H2 L2 f2 z => ⟨_, Hf2, L2, z, f1.trans f2, q1.mono f2⟩
    | bk r2 =>
      rw [eF] at q1
      exact q1
    | ret o =>
      rw [eF] at q1
      exact q1
    | exc e' r2 => rw [eF] at q1; exact q1.elim
    | bad => rw [eF] at q1; exact q1.elim
  · have e : j = ps.length := by omega
    subst e
    rw [List.drop_length] at q1
    exact .inl ⟨⟨hd, by rw [hl]; exact Nat.le_refl _⟩, q1 s1 Hf1 H1 L1 (Same.refl _) sr1⟩
def sForDK2 (i a b : Nat) (F : FS) : FS := sWalkI i (forDk2 a b F)
theorem ds_forDK2 {k i m n kk : Nat} {xm xn : Str} {p1 p2 tpos apos cpos : Pos} (B : Bk c X k) (hN : X.N.Nodup) (hi : PE X e (tVar i)) (hm : X.N[m]? = some xm) (hn : X.N[n]? = some xn) (lm : Loc X.env.scope xm) (ln : Loc X.env.scope xn)
    (fm : X.fn xm = true ∨ X.env.scope.names.lookup xm = some .local) (fn' : X.fn xn = true ∨ X.env.scope.names.lookup xn = some .local) (hb : ∀ c2 : Cn, Bk c2 X k → DSs c2 X sts F)
    (hbase : attributeBase e "keys" X.env (eval e X.env) = eval e X.env := by rfl) (hline : (apos.endLine == cpos.line) = true := by rfl)
    (h1 : (assignEach [.Name xm p1, .Name xn p2] X.env).length = 2 := by rfl) (h2 : (assignEach [.Name xm p1, .Name xn p2] X.env).findIdx? (·.1) = none := by rfl)
    (h3 : (assignEach [.Name xm p1, .Name xn p2] X.env).map (·.2) = assign (.Name xm p1) X.env :: (assignEach [.Name xn p2] X.env).map (·.2) := by rfl)
    (h4 : (assignEach [.Name xn p2] X.env).map (·.2) = assign (.Name xn p2) X.env :: (assignEach ([] : List Expr) X.env).map (·.2) := by rfl)
    (hs : ∀ x, foldedSetIterable (.Call (.Attribute e "keys" apos) [] [] cpos) X.env x = pure x := by intro _; rfl) :
    DS c X (.For (.Tuple [.Name xm p1, .Name xn p2] kk tpos) (.Call (.Attribute e "keys" apos) [] [] cpos) sts [] pos) (sForDK2 i m n F) := by
  have P0 : PS X (.For (.Tuple [.Name xm p1, .Name xn p2] kk tpos) (.Call (.Attribute e "keys" apos) [] [] cpos) sts [] pos) (tFor (iKeysT (tVar i)) (gTup X.K 2 (gCons (gName m) (gCons (gName n) gNil))) (tAllS X sts)) :=
    ps_for B.po B.calm (pi_keysT hi hbase hline) (pg_tup B.calm (pgs_cons (pg_name hN hm lm fm) (pgs_cons (pg_name hN hn ln fn') pgs_nil h4) h3) h1 h2) pss_all hs
  have P1 := ps_lock P0
  refine ⟨_, ⟨fun pins s σ H D I h => ?_⟩, so_walkI (c := c) (K := X.K) (i := i) (tI := tFor (iKeysT (tVar i)) (gTup X.K 2 (gCons (gName m) (gCons (gName n) gNil))) (tAllS X sts)) (Wk := forDk2 m n F) (fun c2 h => core_forDk2 (so_all (hb c2 ?_))) forDk2_exc⟩
  · rcases h with h | h
    · exact P0.run pins s σ H D I h
    · exact P1.run pins s σ H D I h
  · rcases h with h | h
    · exact ⟨B.hr, by rw [h]; exact B.tk, B.po, B.calm⟩
    · exact ⟨B.hr, by rw [h]; exact fun u s' ⟨a, B', sI, pins, σ, H, cls, d, e, I, nb, up, sky, na, os, ag, w⟩ => w.elim, B.po, B.calm⟩
end DL
section
open PySem PySem.Spec PyProof.Rows L2 DL
namespace Row
def top (i : Nat) : Stmt := PySem.Challenge.pw_sumcraft_k61_ends_and_sizes.main.body.getD i (.Pass ⟨0, 0, 0, 0⟩)
def csub (s : Stmt) (j : Nat) : Stmt := match s with
  | .ClassDef _ _ _ b _ _ _ _ _ _ _ => b.getD j (.Pass ⟨0, 0, 0, 0⟩)
  | _ => .Pass ⟨0, 0, 0, 0⟩
abbrev FnP (K : PySem.W.Frag) (x : Str) (st : Stmt) (f : Addr) (fd : FuncData) : Prop := FunD K x x (defArgs st) (defBody st) (defScope st) [] [] f fd
abbrev s__law_is : Stmt := top 46
abbrev N__law_is : List Str := ["_law_found", "_law_due"]
theorem sc__law_is : FnScope N__law_is ["_law_found", "_law_due"] (defScope s__law_is) := ⟨rfl, rfl, rfl, by decide +kernel, rfl, by decide +kernel, by decide +kernel⟩
abbrev s__law_cell_at : Stmt := top 36
abbrev N__law_cell_at : List Str := ["_law_script", "_law_k"]
theorem sc__law_cell_at : FnScope N__law_cell_at ["_law_script", "_law_k"] (defScope s__law_cell_at) := ⟨rfl, rfl, rfl, by decide +kernel, rfl, by decide +kernel, by decide +kernel⟩
abbrev s_Term_told : Stmt := csub (top 34) 1
abbrev N_Term_told : List Str := ["self"]
theorem sc_Term_told : FnScope N_Term_told ["self"] (defScope s_Term_told) := ⟨rfl, rfl, rfl, by decide +kernel, rfl, by decide +kernel, by decide +kernel⟩
abbrev s_Choose___init__ : Stmt := csub (top 25) 0
abbrev N_Choose___init__ : List Str := ["self", "high", "low"]
theorem sc_Choose___init__ : FnScope N_Choose___init__ ["self", "high", "low"] (defScope s_Choose___init__) := ⟨rfl, rfl, rfl, by decide +kernel, rfl, by decide +kernel, by decide +kernel⟩
abbrev s_Weight___init__ : Stmt := csub (top 26) 0
abbrev N_Weight___init__ : List Str := ["self", "form"]
theorem sc_Weight___init__ : FnScope N_Weight___init__ ["self", "form"] (defScope s_Weight___init__) := ⟨rfl, rfl, rfl, by decide +kernel, rfl, by decide +kernel, by decide +kernel⟩
abbrev s_Power___init__ : Stmt := csub (top 27) 0
abbrev N_Power___init__ : List Str := ["self", "fraction"]
theorem sc_Power___init__ : FnScope N_Power___init__ ["self", "fraction"] (defScope s_Power___init__) := ⟨rfl, rfl, rfl, by decide +kernel, rfl, by decide +kernel, by decide +kernel⟩
abbrev s_Growth___init__ : Stmt := csub (top 28) 0
abbrev N_Growth___init__ : List Str := ["self", "fraction"]
theorem sc_Growth___init__ : FnScope N_Growth___init__ ["self", "fraction"] (defScope s_Growth___init__) := ⟨rfl, rfl, rfl, by decide +kernel, rfl, by decide +kernel, by decide +kernel⟩
abbrev s_within : Stmt := top 31
abbrev N_within : List Str := ["form", "least", "greatest", "last"]
theorem sc_within : FnScope N_within ["form", "least", "greatest", "last"] (defScope s_within) := ⟨rfl, rfl, rfl, by decide +kernel, rfl, by decide +kernel, by decide +kernel⟩
abbrev s__law_less : Stmt := top 37
abbrev N__law_less : List Str := ["_law_one", "_law_other"]
theorem sc__law_less : FnScope N__law_less ["_law_one", "_law_other"] (defScope s__law_less) := ⟨rfl, rfl, rfl, by decide +kernel, rfl, by decide +kernel, by decide +kernel⟩
abbrev s_degree_in_k : Stmt := top 8
abbrev N_degree_in_k : List Str := ["one", "powers"]
theorem sc_degree_in_k : FnScope N_degree_in_k ["one"] (defScope s_degree_in_k) := ⟨rfl, rfl, rfl, by decide +kernel, rfl, by decide +kernel, by decide +kernel⟩
abbrev s_Part_up : Stmt := csub (top 24) 2
abbrev N_Part_up : List Str := ["self", "far"]
theorem sc_Part_up : FnScope N_Part_up ["self", "far"] (defScope s_Part_up) := ⟨rfl, rfl, rfl, by decide +kernel, rfl, by decide +kernel, by decide +kernel⟩
abbrev s_Power_up : Stmt := csub (top 27) 2
abbrev N_Power_up : List Str := ["self", "far"]
theorem sc_Power_up : FnScope N_Power_up ["self", "far"] (defScope s_Power_up) := ⟨rfl, rfl, rfl, by decide +kernel, rfl, by decide +kernel, by decide +kernel⟩
abbrev s_Part_down : Stmt := csub (top 24) 3
abbrev N_Part_down : List Str := ["self", "far"]
theorem sc_Part_down : FnScope N_Part_down ["self", "far"] (defScope s_Part_down) := ⟨rfl, rfl, rfl, by decide +kernel, rfl, by decide +kernel, by decide +kernel⟩
abbrev s_Power_down : Stmt := csub (top 27) 3
abbrev N_Power_down : List Str := ["self", "far"]
theorem sc_Power_down : FnScope N_Power_down ["self", "far"] (defScope s_Power_down) := ⟨rfl, rfl, rfl, by decide +kernel, rfl, by decide +kernel, by decide +kernel⟩
abbrev s_Part_step : Stmt := csub (top 24) 1
abbrev N_Part_step : List Str := ["self", "i", "far"]
theorem sc_Part_step : FnScope N_Part_step ["self", "i", "far"] (defScope s_Part_step) := ⟨rfl, rfl, rfl, by decide +kernel, rfl, by decide +kernel, by decide +kernel⟩
abbrev s_raised : Stmt := top 22
abbrev N_raised : List Str := ["fraction", "many", "top", "bottom", "time"]
theorem sc_raised : FnScope N_raised ["fraction", "many"] (defScope s_raised) := ⟨rfl, rfl, rfl, by decide +kernel, rfl, by decide +kernel, by decide +kernel⟩
abbrev s_without_noughts : Stmt := top 5
abbrev N_without_noughts : List Str := ["one", "found", "powers", "number"]
theorem sc_without_noughts : FnScope N_without_noughts ["one"] (defScope s_without_noughts) := ⟨rfl, rfl, rfl, by decide +kernel, rfl, by decide +kernel, by decide +kernel⟩
abbrev s_Choose_raised_lows : Stmt := csub (top 25) 1
abbrev N_Choose_raised_lows : List Str := ["self", "far", "low"]
theorem sc_Choose_raised_lows : FnScope N_Choose_raised_lows ["self", "far"] (defScope s_Choose_raised_lows) := ⟨rfl, rfl, rfl, by decide +kernel, rfl, by decide +kernel, by decide +kernel⟩
abbrev s__law_fraction : Stmt := top 40
abbrev N__law_fraction : List Str := ["_law_cell"]
theorem sc__law_fraction : FnScope N__law_fraction ["_law_cell"] (defScope s__law_fraction) := ⟨rfl, rfl, rfl, by decide +kernel, rfl, by decide +kernel, by decide +kernel⟩
abbrev s_is_choose : Stmt := top 32
abbrev N_is_choose : List Str := ["upper", "lower", "low"]
theorem sc_is_choose : FnScope N_is_choose ["upper", "lower"] (defScope s_is_choose) := ⟨rfl, rfl, rfl, by decide +kernel, rfl, by decide +kernel, by decide +kernel⟩
abbrev s__law_lows : Stmt := top 42
abbrev N__law_lows : List Str := ["_law_part"]
theorem sc__law_lows : FnScope N__law_lows ["_law_part"] (defScope s__law_lows) := ⟨rfl, rfl, rfl, by decide +kernel, rfl, by decide +kernel, by decide +kernel⟩
abbrev s_pair_times : Stmt := top 6
abbrev N_pair_times : List Str := ["one", "other", "found", "left", "a", "right", "b", "powers"]
theorem sc_pair_times : FnScope N_pair_times ["one", "other"] (defScope s_pair_times) := ⟨rfl, rfl, rfl, by decide +kernel, rfl, by decide +kernel, by decide +kernel⟩
abbrev s_Growth_step : Stmt := csub (top 28) 2
abbrev N_Growth_step : List Str := ["self", "i", "far"]
theorem sc_Growth_step : FnScope N_Growth_step ["self", "i", "far"] (defScope s_Growth_step) := ⟨rfl, rfl, rfl, by decide +kernel, rfl, by decide +kernel, by decide +kernel⟩
abbrev s_pair_of_form : Stmt := top 7
abbrev N_pair_of_form : List Str := ["form"]
theorem sc_pair_of_form : FnScope N_pair_of_form ["form"] (defScope s_pair_of_form) := ⟨rfl, rfl, rfl, by decide +kernel, rfl, by decide +kernel, by decide +kernel⟩
abbrev s_low_forms : Stmt := top 14
abbrev N_low_forms : List Str := ["term", "found", "part", "upper", "lower"]
theorem sc_low_forms : FnScope N_low_forms ["term"] (defScope s_low_forms) := ⟨rfl, rfl, rfl, by decide +kernel, rfl, by decide +kernel, by decide +kernel⟩
abbrev s__law_any : Stmt := top 38
abbrev N__law_any : List Str := ["_law_cell", "_law_more", "_law_upper", "_law_lower", "_law_low"]
theorem sc__law_any : FnScope N__law_any ["_law_cell", "_law_more"] (defScope s__law_any) := ⟨rfl, rfl, rfl, by decide +kernel, rfl, by decide +kernel, by decide +kernel⟩
abbrev s_has_ends : Stmt := top 15
abbrev N_has_ends : List Str := ["term", "behind", "before", "a", "b", "c"]
theorem sc_has_ends : FnScope N_has_ends ["term"] (defScope s_has_ends) := ⟨rfl, rfl, rfl, by decide +kernel, rfl, by decide +kernel, by decide +kernel⟩
abbrev s__law_ends : Stmt := top 43
abbrev N__law_ends : List Str := ["_law_parts_here", "_law_behind", "_law_before", "_law_part", "_law_x"]
theorem sc__law_ends : FnScope N__law_ends ["_law_parts_here"] (defScope s__law_ends) := ⟨rfl, rfl, rfl, by decide +kernel, rfl, by decide +kernel, by decide +kernel⟩
abbrev s__law_up_and_down : Stmt := top 44
abbrev N__law_up_and_down : List Str := ["_law_parts_here", "_law_place", "_law_up", "_law_down", "_law_part", "_law_x"]
theorem sc__law_up_and_down : FnScope N__law_up_and_down ["_law_parts_here", "_law_place"] (defScope s__law_up_and_down) := ⟨rfl, rfl, rfl, by decide +kernel, rfl, by decide +kernel, by decide +kernel⟩
abbrev s_made_part : Stmt := top 33
abbrev N_made_part : List Str := ["part", "word"]
theorem sc_made_part : FnScope N_made_part ["part"] (defScope s_made_part) := ⟨rfl, rfl, rfl, by decide +kernel, rfl, by decide +kernel, by decide +kernel⟩
abbrev s__law_step : Stmt := top 45
abbrev N__law_step : List Str := ["_law_parts_here", "_law_i", "_law_far", "_law_place", "_law_found", "_law_part", "_law_x"]
theorem sc__law_step : FnScope N__law_step ["_law_parts_here", "_law_i", "_law_far", "_law_place"] (defScope s__law_step) := ⟨rfl, rfl, rfl, by decide +kernel, rfl, by decide +kernel, by decide +kernel⟩
abbrev s_Weight_step : Stmt := csub (top 26) 2
abbrev N_Weight_step : List Str := ["self", "i", "far"]
theorem sc_Weight_step : FnScope N_Weight_step ["self", "i", "far"] (defScope s_Weight_step) := ⟨rfl, rfl, rfl, by decide +kernel, rfl, by decide +kernel, by decide +kernel⟩
abbrev s_rising : Stmt := top 23
abbrev N_rising : List Str := ["form", "low", "high", "found", "t"]
theorem sc_rising : FnScope N_rising ["form", "low", "high"] (defScope s_rising) := ⟨rfl, rfl, rfl, by decide +kernel, rfl, by decide +kernel, by decide +kernel⟩
abbrev s__law_choose : Stmt := top 39
abbrev N__law_choose : List Str := ["_law_script", "_law_at", "_law_cell", "_law_kind", "_law_j"]
theorem sc__law_choose : FnScope N__law_choose ["_law_script", "_law_at"] (defScope s__law_choose) := ⟨rfl, rfl, rfl, by decide +kernel, rfl, by decide +kernel, by decide +kernel⟩
abbrev s__law_parts : Stmt := top 41
abbrev N__law_parts : List Str := ["_law_script", "_law_first", "_law_found", "_law_k", "_law_cell", "_law_turn"]
theorem sc__law_parts : FnScope N__law_parts ["_law_script"] (defScope s__law_parts) := ⟨rfl, rfl, rfl, by decide +kernel, rfl, by decide +kernel, by decide +kernel⟩
abbrev s_Term___init__ : Stmt := csub (top 34) 0
abbrev N_Term___init__ : List Str := ["self", "parts", "part"]
theorem sc_Term___init__ : FnScope N_Term___init__ ["self", "parts"] (defScope s_Term___init__) := ⟨rfl, rfl, rfl, by decide +kernel, rfl, by decide +kernel, by decide +kernel⟩
abbrev s_Choose_up : Stmt := csub (top 25) 4
abbrev N_Choose_up : List Str := ["self", "far", "found", "low"]
theorem sc_Choose_up : FnScope N_Choose_up ["self", "far"] (defScope s_Choose_up) := ⟨rfl, rfl, rfl, by decide +kernel, rfl, by decide +kernel, by decide +kernel⟩
abbrev s_Choose_down : Stmt := csub (top 25) 5
abbrev N_Choose_down : List Str := ["self", "far", "found", "low"]
theorem sc_Choose_down : FnScope N_Choose_down ["self", "far"] (defScope s_Choose_down) := ⟨rfl, rfl, rfl, by decide +kernel, rfl, by decide +kernel, by decide +kernel⟩
abbrev s_Choose_step : Stmt := csub (top 25) 3
abbrev N_Choose_step : List Str := ["self", "i", "far", "found", "low"]
theorem sc_Choose_step : FnScope N_Choose_step ["self", "i", "far"] (defScope s_Choose_step) := ⟨rfl, rfl, rfl, by decide +kernel, rfl, by decide +kernel, by decide +kernel⟩
abbrev s_Term_frame : Stmt := csub (top 34) 4
abbrev N_Term_frame : List Str := ["self", "far", "steps", "up", "down", "part", "i", "step"]
theorem sc_Term_frame : FnScope N_Term_frame ["self", "far"] (defScope s_Term_frame) := ⟨rfl, rfl, rfl, by decide +kernel, rfl, by decide +kernel, by decide +kernel⟩
abbrev s_breadth_of : Stmt := top 16
abbrev N_breadth_of : List Str := ["term", "steps", "up", "down"]
theorem sc_breadth_of : FnScope N_breadth_of ["term"] (defScope s_breadth_of) := ⟨rfl, rfl, rfl, by decide +kernel, rfl, by decide +kernel, by decide +kernel⟩
abbrev s_length_of : Stmt := top 18
abbrev N_length_of : List Str := ["term", "far", "steps", "up", "down", "found", "one", "i", "j"]
theorem sc_length_of : FnScope N_length_of ["term", "far"] (defScope s_length_of) := ⟨rfl, rfl, rfl, by decide +kernel, rfl, by decide +kernel, by decide +kernel⟩
abbrev s_height_of : Stmt := top 17
abbrev N_height_of : List Str := ["term", "far", "step"]
theorem sc_height_of : FnScope N_height_of ["term", "far"] (defScope s_height_of) := ⟨rfl, rfl, rfl, by decide +kernel, rfl, by decide +kernel, by decide +kernel⟩
abbrev s__law_for : Stmt := top 47
abbrev N__law_for : List Str := ["_law_term", "_law_parts_here", "_law_far", "_law_due", "_law_i"]
theorem sc__law_for : FnScope N__law_for ["_law_term", "_law_parts_here", "_law_far"] (defScope s__law_for) := ⟨rfl, rfl, rfl, by decide +kernel, rfl, by decide +kernel, by decide +kernel⟩
abbrev s_law : Stmt := top 48
abbrev N_law : List Str := ["_law_script", "_law_parts_here", "_law_handed", "_law_term", "_law_told", "_law_start", "_law_k"]
theorem sc_law : FnScope N_law ["_law_script"] (defScope s_law) := ⟨rfl, rfl, rfl, by decide +kernel, rfl, by decide +kernel, by decide +kernel⟩
def d__law_is : He.DefD := ⟨("_law_is", none), "_law_is", "_law_is", defArgs s__law_is, defBody s__law_is, defScope s__law_is, [], []⟩
def d__law_cell_at : He.DefD := ⟨("_law_cell_at", none), "_law_cell_at", "_law_cell_at", defArgs s__law_cell_at, defBody s__law_cell_at, defScope s__law_cell_at, [], []⟩
def d_within : He.DefD := ⟨("within", none), "within", "within", defArgs s_within, defBody s_within, defScope s_within, [], []⟩
def d__law_less : He.DefD := ⟨("_law_less", none), "_law_less", "_law_less", defArgs s__law_less, defBody s__law_less, defScope s__law_less, [], []⟩
def d_degree_in_k : He.DefD := ⟨("degree_in_k", none), "degree_in_k", "degree_in_k", defArgs s_degree_in_k, defBody s_degree_in_k, defScope s_degree_in_k, [], []⟩
def d_raised : He.DefD := ⟨("raised", none), "raised", "raised", defArgs s_raised, defBody s_raised, defScope s_raised, [], []⟩
def d_without_noughts : He.DefD := ⟨("without_noughts", none), "without_noughts", "without_noughts", defArgs s_without_noughts, defBody s_without_noughts, defScope s_without_noughts, [], []⟩
def d__law_fraction : He.DefD := ⟨("_law_fraction", none), "_law_fraction", "_law_fraction", defArgs s__law_fraction, defBody s__law_fraction, defScope s__law_fraction, [], []⟩
def d_is_choose : He.DefD := ⟨("is_choose", none), "is_choose", "is_choose", defArgs s_is_choose, defBody s_is_choose, defScope s_is_choose, [], []⟩
def d__law_lows : He.DefD := ⟨("_law_lows", none), "_law_lows", "_law_lows", defArgs s__law_lows, defBody s__law_lows, defScope s__law_lows, [], []⟩
def d_pair_times : He.DefD := ⟨("pair_times", none), "pair_times", "pair_times", defArgs s_pair_times, defBody s_pair_times, defScope s_pair_times, [], []⟩
def d_pair_of_form : He.DefD := ⟨("pair_of_form", none), "pair_of_form", "pair_of_form", defArgs s_pair_of_form, defBody s_pair_of_form, defScope s_pair_of_form, [], []⟩
def d_low_forms : He.DefD := ⟨("low_forms", none), "low_forms", "low_forms", defArgs s_low_forms, defBody s_low_forms, defScope s_low_forms, [], []⟩
def d__law_any : He.DefD := ⟨("_law_any", none), "_law_any", "_law_any", defArgs s__law_any, defBody s__law_any, defScope s__law_any, [], []⟩
def d_has_ends : He.DefD := ⟨("has_ends", none), "has_ends", "has_ends", defArgs s_has_ends, defBody s_has_ends, defScope s_has_ends, [], []⟩
def d__law_ends : He.DefD := ⟨("_law_ends", none), "_law_ends", "_law_ends", defArgs s__law_ends, defBody s__law_ends, defScope s__law_ends, [], []⟩
def d__law_up_and_down : He.DefD := ⟨("_law_up_and_down", none), "_law_up_and_down", "_law_up_and_down", defArgs s__law_up_and_down, defBody s__law_up_and_down, defScope s__law_up_and_down, [], []⟩
def d_made_part : He.DefD := ⟨("made_part", none), "made_part", "made_part", defArgs s_made_part, defBody s_made_part, defScope s_made_part, [], []⟩
def d__law_step : He.DefD := ⟨("_law_step", none), "_law_step", "_law_step", defArgs s__law_step, defBody s__law_step, defScope s__law_step, [], []⟩
def d_rising : He.DefD := ⟨("rising", none), "rising", "rising", defArgs s_rising, defBody s_rising, defScope s_rising, [], []⟩
def d__law_choose : He.DefD := ⟨("_law_choose", none), "_law_choose", "_law_choose", defArgs s__law_choose, defBody s__law_choose, defScope s__law_choose, [], []⟩
def d__law_parts : He.DefD := ⟨("_law_parts", none), "_law_parts", "_law_parts", defArgs s__law_parts, defBody s__law_parts, defScope s__law_parts, [], []⟩
def d_breadth_of : He.DefD := ⟨("breadth_of", none), "breadth_of", "breadth_of", defArgs s_breadth_of, defBody s_breadth_of, defScope s_breadth_of, [], []⟩
def d_length_of : He.DefD := ⟨("length_of", none), "length_of", "length_of", defArgs s_length_of, defBody s_length_of, defScope s_length_of, [], []⟩
def d_height_of : He.DefD := ⟨("height_of", none), "height_of", "height_of", defArgs s_height_of, defBody s_height_of, defScope s_height_of, [], []⟩
def d__law_for : He.DefD := ⟨("_law_for", none), "_law_for", "_law_for", defArgs s__law_for, defBody s__law_for, defScope s__law_for, [], []⟩
def d_law : He.DefD := ⟨("law", none), "law", "law", defArgs s_law, defBody s_law, defScope s_law, [], []⟩
def d_Term_told : He.DefD := ⟨("Term", some "told"), "told", "Term.told", defArgs s_Term_told, defBody s_Term_told, defScope s_Term_told, [], []⟩
def d_Term_frame : He.DefD := ⟨("Term", some "frame"), "frame", "Term.frame", defArgs s_Term_frame, defBody s_Term_frame, defScope s_Term_frame, [], []⟩
def d_Choose_up : He.DefD := ⟨("Choose", some "up"), "up", "Choose.up", defArgs s_Choose_up, defBody s_Choose_up, defScope s_Choose_up, [], []⟩
def d_Weight_up : He.DefD := ⟨("Weight", some "up"), "up", "Part.up", defArgs s_Part_up, defBody s_Part_up, defScope s_Part_up, [], []⟩
def d_Power_up : He.DefD := ⟨("Power", some "up"), "up", "Power.up", defArgs s_Power_up, defBody s_Power_up, defScope s_Power_up, [], []⟩
def d_Growth_up : He.DefD := ⟨("Growth", some "up"), "up", "Part.up", defArgs s_Part_up, defBody s_Part_up, defScope s_Part_up, [], []⟩
def d_Choose_down : He.DefD := ⟨("Choose", some "down"), "down", "Choose.down", defArgs s_Choose_down, defBody s_Choose_down, defScope s_Choose_down, [], []⟩
def d_Weight_down : He.DefD := ⟨("Weight", some "down"), "down", "Part.down", defArgs s_Part_down, defBody s_Part_down, defScope s_Part_down, [], []⟩
def d_Power_down : He.DefD := ⟨("Power", some "down"), "down", "Power.down", defArgs s_Power_down, defBody s_Power_down, defScope s_Power_down, [], []⟩
def d_Growth_down : He.DefD := ⟨("Growth", some "down"), "down", "Part.down", defArgs s_Part_down, defBody s_Part_down, defScope s_Part_down, [], []⟩
def d_Choose_step : He.DefD := ⟨("Choose", some "step"), "step", "Choose.step", defArgs s_Choose_step, defBody s_Choose_step, defScope s_Choose_step, [], []⟩
def d_Weight_step : He.DefD := ⟨("Weight", some "step"), "step", "Weight.step", defArgs s_Weight_step, defBody s_Weight_step, defScope s_Weight_step, [], []⟩
def d_Power_step : He.DefD := ⟨("Power", some "step"), "step", "Part.step", defArgs s_Part_step, defBody s_Part_step, defScope s_Part_step, [], []⟩
def d_Growth_step : He.DefD := ⟨("Growth", some "step"), "step", "Growth.step", defArgs s_Growth_step, defBody s_Growth_step, defScope s_Growth_step, [], []⟩
def d_Choose_raised_lows : He.DefD := ⟨("Choose", some "raised_lows"), "raised_lows", "Choose.raised_lows", defArgs s_Choose_raised_lows, defBody s_Choose_raised_lows, defScope s_Choose_raised_lows, [], []⟩
def d_Term___init__ : He.DefD := ⟨("Term", some "__init__"), "__init__", "Term.__init__", defArgs s_Term___init__, defBody s_Term___init__, defScope s_Term___init__, [], []⟩
def d_Choose___init__ : He.DefD := ⟨("Choose", some "__init__"), "__init__", "Choose.__init__", defArgs s_Choose___init__, defBody s_Choose___init__, defScope s_Choose___init__, [], []⟩
def d_Weight___init__ : He.DefD := ⟨("Weight", some "__init__"), "__init__", "Weight.__init__", defArgs s_Weight___init__, defBody s_Weight___init__, defScope s_Weight___init__, [], []⟩
def d_Power___init__ : He.DefD := ⟨("Power", some "__init__"), "__init__", "Power.__init__", defArgs s_Power___init__, defBody s_Power___init__, defScope s_Power___init__, [], []⟩
def d_Growth___init__ : He.DefD := ⟨("Growth", some "__init__"), "__init__", "Growth.__init__", defArgs s_Growth___init__, defBody s_Growth___init__, defScope s_Growth___init__, [], []⟩
def fn : List He.DefD := ([d__law_is, d__law_cell_at, d_within, d__law_less, d_degree_in_k, d_raised, d_without_noughts, d__law_fraction, d_is_choose, d__law_lows, d_pair_times, d_pair_of_form, d_low_forms, d__law_any, d_has_ends, d__law_ends, d__law_up_and_down, d_made_part, d__law_step, d_rising, d__law_choose, d__law_parts, d_breadth_of, d_length_of, d_height_of] : List He.DefD) ++ ([d__law_for, d_law, d_Term_told, d_Term_frame, d_Choose_up, d_Weight_up, d_Power_up, d_Growth_up, d_Choose_down, d_Weight_down, d_Power_down, d_Growth_down, d_Choose_step, d_Weight_step, d_Power_step, d_Growth_step, d_Choose_raised_lows, d_Term___init__, d_Choose___init__, d_Weight___init__, d_Power___init__, d_Growth___init__] : List He.DefD)
def fa : List He.Fa := ([.glo "_law_is", .glo "_law_cell_at", .glo "within", .glo "_law_less", .glo "degree_in_k", .glo "raised", .glo "without_noughts", .glo "_law_fraction", .glo "is_choose", .glo "_law_lows", .glo "pair_times", .glo "pair_of_form", .glo "low_forms", .glo "_law_any", .glo "has_ends", .glo "_law_ends", .glo "_law_up_and_down", .glo "made_part", .glo "_law_step", .glo "rising", .glo "_law_choose", .glo "_law_parts", .glo "breadth_of", .glo "length_of", .glo "height_of"] : List He.Fa) ++ ([.glo "_law_for", .glo "law", .glo "Choose", .cls "Choose", .glo "Growth", .cls "Growth", .glo "Power", .cls "Power", .glo "Term", .cls "Term", .glo "Weight", .cls "Weight", .noat "Choose" "high", .noat "Choose" "lows", .noat "Growth" "fraction", .noat "Power" "fraction", .noat "Term" "made", .noat "Term" "words", .noat "Weight" "form", .meth "Term" "told", .meth "Term" "frame", .meth "Choose" "up", .meth "Weight" "up", .meth "Power" "up", .meth "Growth" "up"] : List He.Fa) ++ ([.meth "Choose" "down", .meth "Weight" "down", .meth "Power" "down", .meth "Growth" "down", .meth "Choose" "step", .meth "Weight" "step", .meth "Power" "step", .meth "Growth" "step", .meth "Choose" "raised_lows", .mkr "Term", .mkr "Choose", .mkr "Weight", .mkr "Power", .mkr "Growth", .free "abs", .free "bool", .free "enumerate", .free "int", .free "isinstance", .free "len", .free "list", .free "max", .free "min", .free "range", .int "MOST" 6] : List He.Fa) ++ ([.glo "NoTerm", .exc "NoTerm"] : List He.Fa)
def exL (K : PySem.W.Frag) : List Bool := []
def ex (K : PySem.W.Frag) : Bool := (exL K).all id
theorem ex_at {K : PySem.W.Frag} (h : ex K = true) (i : Nat) {b : Bool} (e : (exL K)[i]? = some b) : b = true := List.all_eq_true.mp h b (List.mem_of_getElem? e)
abbrev R : PySem.W.OpenRow := PySem.W.OpenLaw.row PySem.Challenge.rw_sumcraft_k61_ends_and_sizes
abbrev hk : PySem.W.Hook := DL.hookY 6 fa fn ex
def ob (s : PySem.W.SharedT) : DL.AlY := DL.obsY 6 fa fn ex (HandSHeadRun.getT s)
theorem ob_eq (s : PySem.W.SharedT) : ob s = hk.obs s.abs := DL.obsY_eq (HandSHeadRun.getT_eq s)
def loose : List Str := (["without_noughts", "pair_times", "pair_of_form", "degree_in_k", "divisor", "ratio", "multiplied", "low_forms", "has_ends", "breadth_of", "height_of", "length_of", "form_value", "factorial", "raised", "rising", "within", "is_choose", "made_part", "_law_cell_at", "_law_less", "_law_any", "_law_choose", "_law_fraction", "_law_parts"] : List Str) ++ (["_law_lows", "_law_ends", "_law_up_and_down", "_law_step", "_law_is", "_law_for", "SumError", "NoNumber", "NoTerm", "Part", "Choose", "Weight", "Power", "Growth", "Term", "MOST"] : List Str)
theorem run (w : World) : HandSHeadRun.RunEq R (PySem.W.view R.prog [48]) hk ob 6000 loose w := by
  intro os
  kernel_rfl
end Row
end
noncomputable section
open DL
open L2 (atI ixN)
def gcdI (a b : Int) : Int := (Int.gcd a b : Nat)
theorem absI_eq (a : Int) : (if a < 0 then -a else a) = (a.natAbs : Int) := by split <;> omega
theorem natAbs_mul_lt {x y : Int} {m n k : Nat} (hx : x.natAbs < 2 ^ m) (hy : y.natAbs < 2 ^ n) (hk : m + n ≤ k) : (x * y).natAbs < 2 ^ k := by
  rw [Int.natAbs_mul]
  have h1 : x.natAbs * y.natAbs < 2 ^ m * 2 ^ n := Nat.mul_lt_mul'' hx hy
  rw [← Nat.pow_add] at h1
  exact Nat.lt_of_lt_of_le h1 (Nat.pow_le_pow_right (by omega) hk)
theorem lt_up {a m n : Nat} (h : a < 2 ^ m) (hm : m ≤ n) : a < 2 ^ n := Nat.lt_of_lt_of_le h (Nat.pow_le_pow_right (by omega) hm)
def dIs : List D → Option (List Int)
  | [] => some []
  | .int i :: r => (dIs r).map (i :: ·)
  | _ => none
def oIs : List O → Option (List Int)
  | [] => some []
  | .fz (.int i) :: r => (oIs r).map (i :: ·)
  | _ => none
def asIL : O → Option (List Int)
  | .ls os => oIs os
  | .fz (.lst ds) => dIs ds
  | _ => none
abbrev lD (xs : List Int) : D := .lst (xs.map .int)
abbrev lO (xs : List Int) : O := .fz (.lst (xs.map .int))
abbrev nO (xs : List Int) : O := .ls (iL xs)
theorem dIs_eq : ∀ {ds : List D} {xs : List Int}, dIs ds = some xs → ds = xs.map .int
  | [], xs, h => by cases h; rfl
  | d :: r, xs, h => by
    cases d with
    | int i =>
      cases e : dIs r with
      | none => simp [dIs, e] at h
      | some ys =>
        have h' : i :: ys = xs := by simpa [dIs, e] using h
        rw [← h', dIs_eq e]; rfl
    | _ => simp [dIs] at h
theorem oIs_eq : ∀ {os : List O} {xs : List Int}, oIs os = some xs → os = iL xs
  | [], xs, h => by cases h; rfl
  | o :: r, xs, h => by
    cases o with
    | ls _ => simp [oIs] at h
    | tp _ => simp [oIs] at h
    | ob _ _ _ => simp [oIs] at h
    | dt _ _ => simp [oIs] at h
    | dk _ _ => simp [oIs] at h
    | gh _ _ _ => simp [oIs] at h
    | fz d =>
      cases d with
      | int i =>
        cases e : oIs r with
        | none => simp [oIs, e] at h
        | some ys =>
          have h' : i :: ys = xs := by simpa [oIs, e] using h
          rw [← h', oIs_eq e]; rfl
      | _ => simp [oIs] at h
@[simp] theorem dIs_map (xs : List Int) : dIs (xs.map .int) = some xs := by induction xs with
  | nil => rfl
  | cons x xs ih => simp [dIs, ih]
@[simp] theorem oIs_iL (xs : List Int) : oIs (iL xs) = some xs := by induction xs with
  | nil => rfl
  | cons x xs ih => simp [oIs, iL] at ih ⊢; rw [ih]
@[simp] theorem asIL_ls (xs : List Int) : asIL (.ls (iL xs)) = some xs := oIs_iL xs
@[simp] theorem asIL_lst (xs : List Int) : asIL (.fz (.lst (xs.map .int))) = some xs := dIs_map xs
@[simp] theorem asIL_lD (xs : List Int) : asIL (.fz (lD xs)) = some xs := dIs_map xs
@[simp] theorem asIL_nil : asIL (.fz (.lst [])) = some [] := (rfl)
@[simp] theorem asIL_nil2 : asIL (.ls []) = some [] := (rfl)
theorem asIL_cases {o : O} {xs : List Int} (h : asIL o = some xs) : o = nO xs ∨ o = lO xs := by
  cases o with
  | ls os => left; rw [oIs_eq (show oIs os = some xs from h)]
  | tp os => simp [asIL] at h
  | ob _ _ _ => simp [asIL] at h
  | dt _ _ => simp [asIL] at h
  | dk _ _ => simp [asIL] at h
  | gh _ _ _ => simp [asIL] at h
  | fz d =>
    cases d with
    | lst ds => right; rw [dIs_eq (show dIs ds = some xs from h)]
    | _ => simp [asIL] at h
@[simp] theorem see_a (w : Bool) (o : O) : (see w o).a = o := by
  cases o with
  | fz d => rfl
  | ls os => cases w <;> rfl
  | tp os => cases w <;> rfl
  | ob _ _ _ => cases w <;> rfl
  | dt _ _ => cases w <;> rfl
  | dk _ _ => cases w <;> rfl
  | gh _ _ _ => cases w <;> rfl
theorem asIL_items {o : O} {xs : List Int} (h : asIL o = some xs) : items o = some (iL xs) := by
  rcases asIL_cases h with rfl | rfl
  · rfl
  · exact items_int xs
theorem var_of {i : Nat} {r : Env} {w : Bool} {o : O} (h : r[i]? = some (.vl w o)) : eVar i r = .ok (see w o) := eVar_of h
theorem lsR_iL {xs : List Int} (h : xs.length ≤ 100000) : lsR (iL xs) = .ok (.nw (nO xs)) := lsR_ev (allFz_iL xs) (by simpa using h)
theorem intsOf_iL (xs : List Int) : intsOf (iL xs) = some xs := by
  induction xs with
  | nil => rfl
  | cons x xs ih => show (intsOf (iL xs)).map (x :: ·) = _; rw [ih]; rfl
theorem max_IL {o : O} {x : Int} {xs : List Int} (h : asIL o = some (x :: xs)) : gMaxL [o] = .ok (.nw (I (maxL x xs))) := by
  simp only [gMaxL, asIL_items h, Option.bind_some, intsOf_iL]; rfl
def plainD : Nat → D → Bool
  | _, .int _ => true
  | _, .bl _ => true
  | _, .non => true
  | _, .str x => PySem.PyData.canLay0 (.str x)
  | n + 1, .lst ds => ds.all (plainD n)
  | n + 1, .tup ds => ds.all (plainD n)
  | _, _ => false
theorem plain_py : ∀ (n : Nat) (d : D), plainD n d = true → ∃ p, py d = some p ∧ PySem.PyData.canLay0 p = true ∧ PySem.PyData.depth p ≤ n + 1
  | n, .int i, _ => ⟨.int i, rfl, rfl, by simp [PySem.PyData.depth]⟩
  | n, .bl i, _ => ⟨.bool i, rfl, rfl, by simp [PySem.PyData.depth]⟩
  | n, .non, _ => ⟨.none, rfl, rfl, by simp [PySem.PyData.depth]⟩
  | n + 1, .lst ds, h => by
    have go : ∀ ds : List D, ds.all (plainD n) = true → ∃ ps, pys ds = some ps ∧ PySem.PyData.canLayAll0 ps = true ∧ PySem.PyData.depthAll ps ≤ n + 1 := fun ds => by
      induction ds with
      | nil => intro _; exact ⟨[], rfl, rfl, by simp [PySem.PyData.depthAll]⟩
      | cons d ds ih =>
        intro h
        obtain ⟨h1, h2⟩ := Bool.and_eq_true_iff.mp h
        obtain ⟨p, e1, e2, e3⟩ := plain_py n d h1
        obtain ⟨ps, f1, f2, f3⟩ := ih h2
        exact ⟨p :: ps, by simp [pys, e1, f1], by simp [PySem.PyData.canLayAll0, e2, f2], by simp only [PySem.PyData.depthAll]; omega⟩
    obtain ⟨ps, f1, f2, f3⟩ := go ds h
    exact ⟨.list ps, by simp [py, f1], f2, by simp only [PySem.PyData.depth]; omega⟩
  | n + 1, .tup ds, h => by
    have go : ∀ ds : List D, ds.all (plainD n) = true → ∃ ps, pys ds = some ps ∧ PySem.PyData.canLayAll0 ps = true ∧ PySem.PyData.depthAll ps ≤ n + 1 := fun ds => by
      induction ds with
      | nil => intro _; exact ⟨[], rfl, rfl, by simp [PySem.PyData.depthAll]⟩
      | cons d ds ih =>
        intro h
        obtain ⟨h1, h2⟩ := Bool.and_eq_true_iff.mp h
        obtain ⟨p, e1, e2, e3⟩ := plain_py n d h1
        obtain ⟨ps, f1, f2, f3⟩ := ih h2
        exact ⟨p :: ps, by simp [pys, e1, f1], by simp [PySem.PyData.canLayAll0, e2, f2], by simp only [PySem.PyData.depthAll]; omega⟩
    obtain ⟨ps, f1, f2, f3⟩ := go ds h
    exact ⟨.tuple ps, by simp [py, f1], f2, by simp only [PySem.PyData.depth]; omega⟩
  | n, .str x, h => ⟨.str x, rfl, by cases n <;> exact h, by simp [PySem.PyData.depth]⟩
  | n, .ex _, h => by cases n <;> simp [plainD] at h
  | n, .scr _, h => by cases n <;> simp [plainD] at h
  | n, .obj _ _ _, h => by cases n <;> simp [plainD] at h
  | n, .row _ _, h => by cases n <;> simp [plainD] at h
  | n, .dct _ _, h => by cases n <;> simp [plainD] at h
  | n, .dck _ _, h => by cases n <;> simp [plainD] at h
  | 0, .lst _, h => by simp [plainD] at h
  | 0, .tup _, h => by simp [plainD] at h
theorem eqD_refl {d : D} (h : plainD 20 d = true) : eqD d d = some true := by
  obtain ⟨p, e1, e2, e3⟩ := plain_py 20 d h
  have hs : PySem.SeqAt.shaped p = true := by
    unfold PySem.SeqAt.shaped
    rw [e2, decide_eq_true (by omega)]; rfl
  simp only [eqD, e1, hs, Bool.and_self, if_true, PySem.SeqAt.eqv_refl p e2]
theorem gEq_same {a b : O} {d : D} (ha : er a = d) (hb : er b = d) (h : plainD 20 d = true) (hn : ∀ i, d ≠ .int i) : gEq a b = .ok (.nw (.fz (.bl true))) := by
  rcases int_cases a b with ⟨i, j, rfl, rfl⟩ | ⟨e, _⟩
  · exact absurd ha.symm (hn i)
  · rw [e]; simp only [gEqD, ha, hb, eqD_refl h]; rfl
theorem call1 {M : List O → Res O} {f : FE} {r : Env} {x : R} {o : O} (h : f r = .ok x) (hm : M [x.a] = .ok o) : eCall M (aCons f aNil) r = .ok (.nw o) := by
  rw [eCall_ev, aCons_ev, h]; simp [hm]
theorem call2 {M : List O → Res O} {f g : FE} {r : Env} {x y : R} {o : O} (h : f r = .ok x) (h2 : g r = .ok y) (hm : M [x.a, y.a] = .ok o) : eCall M (aCons f (aCons g aNil)) r = .ok (.nw o) := by
  rw [eCall_ev, aCons_ev, h, aCons_ev, h2]; simp [hm]
theorem call3 {M : List O → Res O} {f g k : FE} {r : Env} {x y z : R} {o : O} (h : f r = .ok x) (h2 : g r = .ok y) (h3 : k r = .ok z) (hm : M [x.a, y.a, z.a] = .ok o) : eCall M (aCons f (aCons g (aCons k aNil))) r = .ok (.nw o) := by
  rw [eCall_ev, aCons_ev, h, aCons_ev, h2, aCons_ev, h3]; simp [hm]
theorem b1 {g : List O → Res R} {f : FE} {r : Env} {x : R} (h : f r = .ok x) : eB g (aCons f aNil) r = g [x.a] := by
  rw [eB_ev, aCons_ev, h]; simp
theorem b2 {g : List O → Res R} {f k : FE} {r : Env} {x y : R} (h : f r = .ok x) (h2 : k r = .ok y) : eB g (aCons f (aCons k aNil)) r = g [x.a, y.a] := by
  rw [eB_ev, aCons_ev, h, aCons_ev, h2]; simp
theorem op_of {g : O → O → Res R} {f k : FE} {r : Env} {x y : R} (h : f r = .ok x) (h2 : k r = .ok y) : eOp g f k r = g x.a y.a := by
  rw [eOp_ev, h, h2]; simp
theorem bF {f : FE} {r : Env} (h : f r = .ok (.nw (.fz (.bl true)))) : tNotD (tOf f) r = .ok false := tNot_ok (tOf_ok h)
theorem er_nO (xs : List Int) : er (nO xs) = lD xs := by simp [ers_iL]
theorem ra_nO (xs : List Int) : (R.nw (nO xs)).a = lO xs := by rw [ra_nw, er_nO]
theorem rngL_eq (n : Nat) : rngL 0 n = (List.range n).map fun (k : Nat) => intR (k : Int) := by
  unfold rngL
  refine List.map_congr_left fun k _ => ?_
  rw [Int.zero_add]
theorem rng_ok {fs : Env → Res (List O)} {r : Env} {n : Nat} (h : fs r = .ok [I n]) (hn : n ≤ 1000000) : iRng rng1 fs r = .ok ((List.range n).map fun (k : Nat) => intR (k : Int)) := by
  rw [iRng_ev, h, res_ok, rng1_ok (by omega) (by omega), Int.toNat_natCast, rngL_eq]
def trim : List Int → List Int
  | [] => []
  | x :: xs => match trim xs with
    | [] => if x = 0 then [] else [x]
    | y :: ys => x :: y :: ys
def co (xs : List Int) (k : Nat) : Int := xs.getD k 0
@[simp] theorem co_nil (k : Nat) : co [] k = 0 := by simp [co]
@[simp] theorem co_zero (x : Int) (xs : List Int) : co (x :: xs) 0 = x := by simp [co]
@[simp] theorem co_succ (x : Int) (xs : List Int) (k : Nat) : co (x :: xs) (k + 1) = co xs k := by simp [co]
theorem co_lt {xs : List Int} {k : Nat} (h : k < xs.length) : co xs k = xs[k] := by
  unfold co
  rw [List.getD_eq_getElem?_getD, List.getElem?_eq_getElem h]; rfl
theorem co_ge {xs : List Int} {k : Nat} (h : xs.length ≤ k) : co xs k = 0 := by
  unfold co
  rw [List.getD_eq_getElem?_getD, List.getElem?_eq_none h]; rfl
theorem co_trim : ∀ (xs : List Int) (k : Nat), co (trim xs) k = co xs k
  | [], k => rfl
  | x :: xs, k => by
    have ih := co_trim xs
    cases e : trim xs with
    | nil =>
      rw [e] at ih
      by_cases hx : x = 0
      · simp only [trim, e, hx, if_true]
        cases k with
        | zero => simp
        | succ k => simp; simpa using ih k
      · simp only [trim, e, hx, if_false]
        cases k with
        | zero => simp
        | succ k => simp; simpa using ih k
    | cons y ys =>
      rw [e] at ih
      simp only [trim, e]
      cases k with
      | zero => simp
      | succ k => simp only [co_succ]; exact ih k
theorem trim_length_le : ∀ xs : List Int, (trim xs).length ≤ xs.length
  | [] => Nat.le_refl _
  | x :: xs => by
    have ih := trim_length_le xs
    cases e : trim xs with
    | nil =>
      simp only [trim, e]
      split <;> simp
    | cons y ys =>
      rw [e] at ih
      simp only [trim, e, List.length_cons] at ih ⊢
      omega
def sumN : Nat → (Nat → Int) → Int
  | 0, _ => 0
  | n + 1, f => sumN n f + f n
theorem sumN_congr {f g : Nat → Int} : ∀ {n : Nat}, (∀ i, i < n → f i = g i) → sumN n f = sumN n g
  | 0, _ => rfl
  | n + 1, h => by rw [sumN, sumN, sumN_congr fun i hi => h i (by omega), h n (by omega)]
theorem sumN_add (f g : Nat → Int) : ∀ n : Nat, sumN n (fun i => f i + g i) = sumN n f + sumN n g
  | 0 => rfl
  | n + 1 => by rw [sumN, sumN, sumN, sumN_add f g n]; omega
theorem sumN_mul (c : Int) (f : Nat → Int) : ∀ n : Nat, sumN n (fun i => c * f i) = c * sumN n f
  | 0 => by simp [sumN]
  | n + 1 => by rw [sumN, sumN, sumN_mul c f n, Int.mul_add]
def nrm (n : Nat) (f : Nat → Int) : List Int := trim ((List.range n).map f)
theorem co_range (n : Nat) (f : Nat → Int) (k : Nat) : co ((List.range n).map f) k = if k < n then f k else 0 := by
  by_cases h : k < n
  · rw [if_pos h, co_lt (by simpa using h)]; simp
  · rw [if_neg h, co_ge (by simpa using h)]
theorem co_nrm (n : Nat) (f : Nat → Int) (k : Nat) : co (nrm n f) k = if k < n then f k else 0 := by
  unfold nrm; rw [co_trim, co_range]
def padd (xs ys : List Int) : List Int := nrm (max xs.length ys.length) fun k => co xs k + co ys k
def psub (xs ys : List Int) : List Int := nrm (max xs.length ys.length) fun k => co xs k - co ys k
def cvt (xs ys : List Int) (k i : Nat) : Int := if i ≤ k then co xs i * co ys (k - i) else 0
theorem co_padd (xs ys : List Int) (k : Nat) : co (padd xs ys) k = co xs k + co ys k := by
  unfold padd; rw [co_nrm]
  split
  · rfl
  · rw [co_ge (xs := xs) (by omega), co_ge (xs := ys) (by omega)]; rfl
theorem co_psub (xs ys : List Int) (k : Nat) : co (psub xs ys) k = co xs k - co ys k := by
  unfold psub; rw [co_nrm]
  split
  · rfl
  · rw [co_ge (xs := xs) (by omega), co_ge (xs := ys) (by omega)]; rfl
theorem cat_IL {a b : O} {xs ys : List Int} (ha : asIL a = some xs) (hb : asIL b = some ys) (hl : xs.length + ys.length ≤ 100000) : gAddA a b = .ok (.nw (nO (xs ++ ys))) := by
  have e : gAddA a b = gCat a b := by rcases asIL_cases ha with rfl | rfl <;> rfl
  have s1 : isScr a = false := by rcases asIL_cases ha with rfl | rfl <;> rfl
  have s2 : isScr b = false := by rcases asIL_cases hb with rfl | rfl <;> rfl
  rw [e, gCat, s1, s2, asIL_items ha, asIL_items hb]
  simp only [Bool.or_self, Bool.false_eq_true, if_false]
  rw [← List.map_append, lsR_iL (by rw [List.length_append]; omega)]
theorem app_ls {i : Nat} {r : Env} {os : List O} {f : FE} {x : R} {d : D} (h : r[i]? = some (.vl true (.ls os))) (hf : allFz os = true) (h2 : f r = .ok x) (hx : x.a = .fz d) (hl : os.length ≤ 100000) : sApp i f r = .nx (r.set i (.vl true (.ls (os ++ [.fz d])))) := by
  simp only [sApp, onOwn, h, hf, if_true, sUse_ev, h2, hx, hl]
def pev (n : Int) : List Int → Int
  | [] => 0
  | x :: xs => pev n xs * n + x
def BL (b : Nat) (xs : List Int) : Prop := ∀ x ∈ xs, x.natAbs < 2 ^ b
theorem BL.up {b d : Nat} {xs : List Int} (h : BL b xs) (hd : b ≤ d) : BL d xs := fun y hy => lt_up (h y hy) hd
theorem sumN_shift (f : Nat → Int) : ∀ n : Nat, sumN (n + 1) f = f 0 + sumN n fun i => f (i + 1)
  | 0 => by simp [sumN]
  | n + 1 => by rw [sumN, sumN_shift f n, sumN]; omega
theorem pev_sum (n : Int) : ∀ xs : List Int, pev n xs = sumN xs.length fun i => co xs i * n ^ i
  | [] => rfl
  | x :: xs => by
    rw [List.length_cons, sumN_shift, pev, pev_sum n xs]
    simp only [co_zero, Int.pow_zero, Int.mul_one, co_succ]
    rw [Int.add_comm]
    congr 1
    rw [Int.mul_comm, ← sumN_mul]
    exact sumN_congr fun i _ => by rw [Int.pow_succ, Int.mul_comm (n ^ i) n, ← Int.mul_assoc, ← Int.mul_assoc, Int.mul_comm n]
def mulc (xs ys : List Int) (k : Nat) : Int := sumN xs.length (cvt xs ys k)
def cv (u g : Nat → Int) (k : Nat) : Int := sumN (k + 1) fun i => u i * g (k - i)
theorem sumN_more {f : Nat → Int} {n : Nat} : ∀ m : Nat, (∀ i, n ≤ i → f i = 0) → sumN (n + m) f = sumN n f
  | 0, _ => rfl
  | m + 1, h => by
    show sumN (n + m) f + f (n + m) = _
    rw [sumN_more m h, h _ (by omega)]; omega
def subAt (rest : List Int) (a : Nat) (m : Int) (ds : List Int) (j : Nat) : List Int := (List.range rest.length).map fun i => co rest i - if a ≤ i ∧ i < a + j then m * co ds (i - a) else 0
def qmany (ds : List Int) (F t : Nat) (rest : List Int) : Int := (co rest (F - 1 - t + (ds.length - 1))).fdiv (co ds (ds.length - 1))
def qrest (xs ds : List Int) (F : Nat) : Nat → List Int
  | 0 => xs
  | t + 1 => subAt (qrest xs ds F t) (F - 1 - t) (qmany ds F t (qrest xs ds F t)) ds ds.length
def qfound (xs ds : List Int) (F : Nat) : Nat → List Int
  | 0 => (List.range F).map fun _ => 0
  | t + 1 => (qfound xs ds F t).set (F - 1 - t) (qmany ds F t (qrest xs ds F t))
structure QInv (xs ds : List Int) (F t : Nat) : Prop where
  sum : ∀ i, co xs i = co (qrest xs ds F t) i + mulc (qfound xs ds F t) ds i
  low : ∀ i, i < F - t → co (qfound xs ds F t) i = 0
  top : ∀ i, F - t + (ds.length - 1) ≤ i → co (qrest xs ds F t) i = 0
theorem pev_sumN {n : Int} {xs : List Int} {N : Nat} (h : xs.length ≤ N) : pev n xs = sumN N fun i => co xs i * n ^ i := by
  rw [pev_sum]
  obtain ⟨m, rfl⟩ := Nat.exists_eq_add_of_le h
  exact (sumN_more m fun i hi => by rw [co_ge hi, Int.zero_mul]).symm
theorem pev_co {xs ys : List Int} (h : ∀ k, co xs k = co ys k) (n : Int) : pev n xs = pev n ys := by
  rw [pev_sumN (N := max xs.length ys.length) (by omega), pev_sumN (xs := ys) (N := max xs.length ys.length) (by omega)]
  exact sumN_congr fun i _ => by rw [h]
theorem pev_padd (n : Int) (xs ys : List Int) : pev n (padd xs ys) = pev n xs + pev n ys := by
  have l := trim_length_le ((List.range (max xs.length ys.length)).map fun k => co xs k + co ys k)
  rw [List.length_map, List.length_range] at l
  rw [pev_sumN (N := max xs.length ys.length) (xs := padd xs ys) l, pev_sumN (N := max xs.length ys.length) (xs := xs) (by omega), pev_sumN (xs := ys) (N := max xs.length ys.length) (by omega), ← sumN_add]
  exact sumN_congr fun i _ => by rw [co_padd, Int.add_mul]
theorem pev_psub (n : Int) (xs ys : List Int) : pev n (psub xs ys) = pev n xs - pev n ys := by
  have h : pev n (padd (psub xs ys) ys) = pev n xs := pev_co (fun k => by rw [co_padd, co_psub]; omega) n
  rw [pev_padd] at h
  omega
def PF (f : Int → Int) : Prop := ∃ p : List Int, ∀ n, pev n p = f n
theorem PF.of (p : List Int) : PF fun n => pev n p := ⟨p, fun _ => rfl⟩
theorem PF.add {f g : Int → Int} (hf : PF f) (hg : PF g) : PF fun n => f n + g n := by
  obtain ⟨p, h1⟩ := hf
  obtain ⟨q, h2⟩ := hg
  exact ⟨padd p q, fun n => by rw [pev_padd, h1, h2]⟩
theorem PF.sub {f g : Int → Int} (hf : PF f) (hg : PF g) : PF fun n => f n - g n := by
  obtain ⟨p, h1⟩ := hf
  obtain ⟨q, h2⟩ := hg
  exact ⟨psub p q, fun n => by rw [pev_psub, h1, h2]⟩
abbrev lead (xs : List Int) : Int := co xs (xs.length - 1)
def contL (xs : List Int) : Nat := xs.foldl (fun a x => Nat.gcd a x.natAbs) 0
def pp (xs : List Int) : List Int := xs.map fun x => x.fdiv (contL xs)
structure Nrm (F : List Int) : Prop where
  t : trim F = F
  p : 0 < F.length
  c : contL F = 1
  l : 0 < lead F
abbrev LD (ls : List (List Int)) : D := .lst (ls.map lD)
abbrev oL (ls : List (List Int)) : List O := ls.map lO
theorem ers_oL (ls : List (List Int)) : ers (oL ls) = ls.map lD := by rw [ers_eq, List.map_map]; rfl
theorem er_oL (ls : List (List Int)) : er (.ls (oL ls)) = LD ls := by rw [er_ls, ers_oL]
theorem items_LD (ls : List (List Int)) : items (.fz (LD ls)) = some (oL ls) := by simp [oL]
def IsL (o : O) (ls : List (List Int)) : Prop := o = .ls (oL ls) ∨ o = .fz (LD ls)
theorem IsL.items {o : O} {ls : List (List Int)} (h : IsL o ls) : items o = some (oL ls) := by
  rcases h with rfl | rfl
  · rfl
  · exact items_LD ls
theorem IsL.er {o : O} {ls : List (List Int)} (h : IsL o ls) : er o = LD ls := by
  rcases h with rfl | rfl
  · exact er_oL ls
  · rfl
def dLs : List D → Option (List (List Int))
  | [] => some []
  | .lst ds :: r => (dIs ds).bind fun x => (dLs r).map (x :: ·)
  | _ => none
def dLL : D → Option (List (List Int))
  | .lst ds => dLs ds
  | _ => none
@[simp] theorem dLL_LD (ls : List (List Int)) : dLL (LD ls) = some ls := by
  have h : ∀ ls : List (List Int), dLs (ls.map lD) = some ls := fun ls => by
    induction ls with
    | nil => rfl
    | cons x xs ih => simp [dLs, ih]
  exact h ls
abbrev fD (p : Int × Int) : D := .tup [.int p.1, .int p.2]
abbrev VD (vs : List (Int × Int)) : D := .lst (vs.map fD)
def dFr : D → Option (Int × Int)
  | .tup [.int a, .int b] => some (a, b)
  | _ => none
def dFrs : List D → Option (List (Int × Int))
  | [] => some []
  | d :: r => (dFr d).bind fun p => (dFrs r).map (p :: ·)
def dVs : D → Option (List (Int × Int))
  | .lst ds => dFrs ds
  | _ => none
@[simp] theorem dVs_VD (vs : List (Int × Int)) : dVs (VD vs) = some vs := by
  have h : ∀ vs : List (Int × Int), dFrs (vs.map fD) = some vs := fun vs => by
    induction vs with
    | nil => rfl
    | cons x xs ih => simp [dFrs, dFr, ih]
  exact h vs
theorem getD_mem {α : Type} {xs : List α} {k : Nat} {d : α} (h : k < xs.length) : xs.getD k d ∈ xs := by
  rw [List.getD_eq_getElem?_getD, List.getElem?_eq_getElem h]
  exact List.getElem_mem h
def cellAt (ns : List Int) (k : Int) : Int := ns.getD k.toNat 0
def M__law_cell_at : List O → Res O
  | [.fz (.scr ns), .fz (.int k)] => if 0 ≤ k then .ok (I (cellAt ns k)) else .bad
  | _ => .bad
theorem cell_ok (ns : List Int) {k : Int} (h : 0 ≤ k) : M__law_cell_at [.fz (.scr ns), I k] = .ok (I (cellAt ns k)) := if_pos h
abbrev U : S := .un
abbrev scrS (ns : List Int) : S := .vl false (.fz (.scr ns))
theorem cell_c {ns : List Int} {r : Env} {k : Int} (h : 0 ≤ k) : eCall M__law_cell_at (aCons (eVar 0) (aCons (eC (.int k)) aNil)) (scrS ns :: r) = .ok (.nw (I (cellAt ns k))) :=
  call2 (x := .nw (.fz (.scr ns))) (y := .nw (I k)) rfl rfl (cell_ok ns h)
theorem cell_e {ns : List Int} {r : Env} {f : FE} {k : Int} (h : 0 ≤ k) (hf : f (scrS ns :: r) = .ok (.nw (I k))) : eCall M__law_cell_at (aCons (eVar 0) (aCons f aNil)) (scrS ns :: r) = .ok (.nw (I (cellAt ns k))) :=
  call2 (x := .nw (.fz (.scr ns))) (y := .nw (I k)) rfl hf (cell_ok ns h)
theorem e_mod {f : FE} {r : Env} {a b : Int} (h : f r = .ok (.nw (I a))) (hb : b ≠ 0) : eOp gMod f (eC (.int b)) r = .ok (.nw (I (a.fmod b))) := by
  rw [op_of h (eC_ev _)]; exact gMod_ev hb
theorem e_div {f : FE} {r : Env} {a b : Int} (h : f r = .ok (.nw (I a))) (hb : 0 < b) (h2 : b < 1073741824) : eOp gDiv f (eC (.int b)) r = .ok (.nw (I (a.fdiv b))) := by
  rw [op_of h (eC_ev _)]; exact gDiv_pos hb h2
theorem e_add {f g : FE} {r : Env} {a b : Int} (h : f r = .ok (.nw (I a))) (h2 : g r = .ok (.nw (I b))) : eOp gAddA f g r = .ok (.nw (I (a + b))) := by
  rw [op_of h h2]; rfl
theorem e_sub {f g : FE} {r : Env} {a b : Int} (h : f r = .ok (.nw (I a))) (h2 : g r = .ok (.nw (I b))) : eOp gSub f g r = .ok (.nw (I (a - b))) := by
  rw [op_of h h2]; rfl
theorem t_eq {f g : FE} {r : Env} {a b : Int} (h : f r = .ok (.nw (I a))) (h2 : g r = .ok (.nw (I b))) : tOf (eOp gEq f g) r = .ok (decide (a = b)) := by
  rw [tOf_ev, op_of h h2]; rfl
theorem t_ne {f g : FE} {r : Env} {a b : Int} (h : f r = .ok (.nw (I a))) (h2 : g r = .ok (.nw (I b))) : tOf (eOp gNe f g) r = .ok (!decide (a = b)) := by
  rw [tOf_ev, op_of h h2]; rfl
theorem t_lt {f g : FE} {r : Env} {a b : Int} (h : f r = .ok (.nw (I a))) (h2 : g r = .ok (.nw (I b))) : tOf (eOp gLt f g) r = .ok (decide (a < b)) := by
  rw [tOf_ev, op_of h h2]; rfl
theorem t_gt {f g : FE} {r : Env} {a b : Int} (h : f r = .ok (.nw (I a))) (h2 : g r = .ok (.nw (I b))) : tOf (eOp gGt f g) r = .ok (decide (b < a)) := by
  rw [tOf_ev, op_of h h2]; rfl
theorem fmod_rg {a b : Int} (h : 0 < b) : 0 ≤ a.fmod b ∧ a.fmod b < b := ⟨Int.fmod_nonneg_of_pos a h, Int.fmod_lt_of_pos a h⟩
theorem gEq_bl (a b : Bool) : gEq (.fz (.bl a)) (.fz (.bl b)) = .ok (.nw (.fz (.bl (decide (a = b))))) := by cases a <;> cases b <;> rfl
theorem e_tup0 {f : FE} {r : Env} {a b : Int} (h : f r = .ok (.nw (.fz (fD (a, b))))) : eIx f (eC (.int 0)) r = .ok (.nw (I a)) := by
  rw [ix_nw h (eC_ev _) (d := .int a)]
  rfl
theorem e_tup1 {f : FE} {r : Env} {a b : Int} (h : f r = .ok (.nw (.fz (fD (a, b))))) : eIx f (eC (.int 1)) r = .ok (.nw (I b)) := by
  rw [ix_nw h (eC_ev _) (d := .int b)]
  rfl
theorem rng2_go {fs : Env → Res (List O)} {r : Env} {a b : Int} (h : fs r = .ok [I a, I b]) (h1 : -(2 ^ 62) ≤ a) (h2 : a < 2 ^ 62) (h3 : -(2 ^ 62) ≤ b) (h4 : b < 2 ^ 62) : iRng rng2 fs r = .ok ((List.range (b - a).toNat).map fun (k : Nat) => intR (a + (k : Nat))) := by
  rw [iRng_ev, h, res_ok, rng2_ok h1 h2 h3 h4]; rfl
theorem plain_tup {n : Nat} {ds : List D} (h : ds.all (plainD n) = true) : plainD (n + 1) (.tup ds) = true := h
abbrev T3 := Int × Int × Int
abbrev t3 (f : T3) : D := .tup [.int f.1, .int f.2.1, .int f.2.2]
def dif3 (h l : T3) : T3 := (h.1 - l.1, h.2.1 - l.2.1, h.2.2 - l.2.2)
inductive Pt where | ch (h l : T3) | wt (f : T3) | pw (f : Int × Int) | gr (f : Int × Int)
def ptD : Pt → D
  | .ch h l => .tup [.str "choose", t3 h, t3 l]
  | .wt f => .tup [.str "weight", t3 f]
  | .pw f => .tup [.str "power", fD f]
  | .gr f => .tup [.str "growth", fD f]
def ptO : Pt → O
  | .ch h l => .ob "Choose" ["high", "lows"] [.fz (t3 h), .ls [.fz (t3 l), .fz (t3 (dif3 h l))]]
  | .wt f => .ob "Weight" ["form"] [.fz (t3 f)]
  | .pw f => .ob "Power" ["fraction"] [.fz (fD f)]
  | .gr f => .ob "Growth" ["fraction"] [.fz (fD f)]
def TF_form : List PySem.Str := ["Weight"]
def TF_fraction : List PySem.Str := ["Power", "Growth"]
def TF_high : List PySem.Str := ["Choose"]
def TF_lows : List PySem.Str := ["Choose"]
def TF_made : List PySem.Str := ["Term"]
def TF_words : List PySem.Str := ["Term"]
noncomputable def B__law_is : FS := (sRet (eAnd (eIsi .int (eVar 0)) (eAnd (eNot (eIsi .bl (eVar 0))) (eOp gEq (eVar 0) (eVar 1)))))
noncomputable abbrev M__law_is : List O → Res O := runF 2 B__law_is
noncomputable def B__law_cell_at : FS := (sSeq (sIf (tOf (eOp gLt (eVar 1) (eB gLen (aCons (eVar 0) aNil)))) (sRet (eIx (eVar 0) (eVar 1))) sNil) (sRet (eC (.int 0))))
noncomputable def B_Term_told : FS := (sRet (eB gList (aCons (eFld TF_words "words" (eVar 0)) aNil)))
noncomputable abbrev M_Term_told : List O → Res O := runF 1 B_Term_told
noncomputable def B_Choose___init__ : FS := (sSeq (sFldM TF_high 0 "high" (eVar 1)) (sFldM TF_lows 0 "lows" (eLst (aCons (eVar 2) (aCons (eTup (aCons (eOp gSub (eIx (eVar 1) (eC (.int 0))) (eIx (eVar 2) (eC (.int 0)))) (aCons (eOp gSub (eIx (eVar 1) (eC (.int 1))) (eIx (eVar 2) (eC (.int 1)))) (aCons (eOp gSub (eIx (eVar 1) (eC (.int 2))) (eIx (eVar 2) (eC (.int 2)))) aNil)))) aNil)))))
noncomputable def M_Choose___init__ : List O → Res O := fun os => mI fun a => runI 3 "Choose" B_Choose___init__ a os
theorem imp_Choose___init__ (a : PySem.Addr) : ∀ os : List O, os.length = 2 → M_Choose___init__ os = .bad ∨ M_Choose___init__ os = runI 3 "Choose" B_Choose___init__ a os := fun os _ => mI_imp a
noncomputable def B_Weight___init__ : FS := (sFldM TF_form 0 "form" (eVar 1))
noncomputable def M_Weight___init__ : List O → Res O := fun os => mI fun a => runI 2 "Weight" B_Weight___init__ a os
theorem imp_Weight___init__ (a : PySem.Addr) : ∀ os : List O, os.length = 1 → M_Weight___init__ os = .bad ∨ M_Weight___init__ os = runI 2 "Weight" B_Weight___init__ a os := fun os _ => mI_imp a
noncomputable def B_Power___init__ : FS := (sFldM TF_fraction 0 "fraction" (eVar 1))
noncomputable def M_Power___init__ : List O → Res O := fun os => mI fun a => runI 2 "Power" B_Power___init__ a os
theorem imp_Power___init__ (a : PySem.Addr) : ∀ os : List O, os.length = 1 → M_Power___init__ os = .bad ∨ M_Power___init__ os = runI 2 "Power" B_Power___init__ a os := fun os _ => mI_imp a
noncomputable def B_Growth___init__ : FS := (sFldM TF_fraction 0 "fraction" (eVar 1))
noncomputable def M_Growth___init__ : List O → Res O := fun os => mI fun a => runI 2 "Growth" B_Growth___init__ a os
theorem imp_Growth___init__ (a : PySem.Addr) : ∀ os : List O, os.length = 1 → M_Growth___init__ os = .bad ∨ M_Growth___init__ os = runI 2 "Growth" B_Growth___init__ a os := fun os _ => mI_imp a
noncomputable def B_within : FS := (sSeq (sIf (tOrD (tOf (eOp gLt (eB gMinT (aCons (eSlT (eVar 0) pNone (pSome (eC (.int 2)))) aNil)) (eVar 1))) (tOf (eOp gGt (eB gMaxT (aCons (eSlT (eVar 0) pNone (pSome (eC (.int 2)))) aNil)) (eVar 2)))) (sRet (eC (.bl false))) sNil) (sRet (eAnd (eOp gLe (eB gAbs (aCons (eIx (eVar 0) (eC (.int 2))) aNil)) (eVar 3)) (eOr (eOp gLt (eVar 1) (eC (.int 0))) (eOp gGe (eIx (eVar 0) (eC (.int 2))) (eC (.int 0)))))))
noncomputable abbrev M_within : List O → Res O := runF 4 B_within
noncomputable def B__law_less : FS := (sRet (eTup (aCons (eOp gSub (eIx (eVar 0) (eC (.int 0))) (eIx (eVar 1) (eC (.int 0)))) (aCons (eOp gSub (eIx (eVar 0) (eC (.int 1))) (eIx (eVar 1) (eC (.int 1)))) (aCons (eOp gSub (eIx (eVar 0) (eC (.int 2))) (eIx (eVar 1) (eC (.int 2)))) aNil)))))
noncomputable abbrev M__law_less : List O → Res O := runF 2 B__law_less
noncomputable def B_degree_in_k : FS := (sMaxK 0 1 (eIx (eVar 1) (eC (.int 1))) 0)
noncomputable abbrev M_degree_in_k : List O → Res O := runF 2 B_degree_in_k
noncomputable def B_Part_up : FS := (sRet (eDspT (((eTup (aCons (eC (.int 0)) (aCons (eC (.int 0)) aNil))), (eC (.int 1))) :: [])))
noncomputable abbrev M_Part_up : List O → Res O := runF 2 B_Part_up
noncomputable def B_Power_up : FS := (sRet (eDspT (((eTup (aCons (eC (.int 0)) (aCons (eC (.int 0)) aNil))), (eIx (eFld TF_fraction "fraction" (eVar 0)) (eC (.int 0)))) :: [])))
noncomputable abbrev M_Power_up : List O → Res O := runF 2 B_Power_up
noncomputable def B_Part_down : FS := (sRet (eDspT (((eTup (aCons (eC (.int 0)) (aCons (eC (.int 0)) aNil))), (eC (.int 1))) :: [])))
noncomputable abbrev M_Part_down : List O → Res O := runF 2 B_Part_down
noncomputable def B_Power_down : FS := (sRet (eDspT (((eTup (aCons (eC (.int 0)) (aCons (eC (.int 0)) aNil))), (eIx (eFld TF_fraction "fraction" (eVar 0)) (eC (.int 1)))) :: [])))
noncomputable abbrev M_Power_down : List O → Res O := runF 2 B_Power_down
noncomputable def B_Part_step : FS := (sRet (eDspT (((eTup (aCons (eC (.int 0)) (aCons (eC (.int 0)) aNil))), (eC (.int 1))) :: [])))
noncomputable abbrev M_Part_step : List O → Res O := runF 3 B_Part_step
noncomputable def B_raised : FS := (sSeq (sSet 2 false (eC (.int 1))) (sSeq (sSet 3 false (eC (.int 1))) (sSeq (sFor (iRng rng1 (aCons (eVar 1) aNil)) (gN 4) (sSeq (sAug 2 gMul (eIx (eVar 0) (eC (.int 0)))) (sAug 3 gMul (eIx (eVar 0) (eC (.int 1)))))) (sRet (eTup (aCons (eVar 2) (aCons (eVar 3) aNil)))))))
noncomputable abbrev M_raised : List O → Res O := runF 5 B_raised
noncomputable def B_without_noughts : FS := (sSeq (sSet 1 true eDNew) (sSeq (sForDI 0 2 3 (sIf (tOf (eOp gNe (eVar 3) (eC (.int 0)))) (sDPutL 1 (eVar 3) (eVar 2)) sNil)) (sRetV 1)))
noncomputable abbrev M_without_noughts : List O → Res O := runF 4 B_without_noughts
noncomputable def B_Choose_raised_lows : FS := (sRet (eLcD (iLst (eFld TF_lows "lows" (eVar 0))) (gN 2) [2] tYesD (eTup (aCons (eIx (eVar 2) (eC (.int 0))) (aCons (eIx (eVar 2) (eC (.int 1))) (aCons (eOp gAddA (eIx (eVar 2) (eC (.int 2))) (eOp gMulA (eVar 1) (eB gMax2 (aCons (eC (.int 0)) (aCons (eIx (eVar 2) (eC (.int 0))) aNil))))) aNil))))))
noncomputable abbrev M_Choose_raised_lows : List O → Res O := runF 3 B_Choose_raised_lows
noncomputable def B__law_fraction : FS := (sRet (eIx (eLst (aCons (eTup (aCons (eC (.int 1)) (aCons (eC (.int 1)) aNil))) (aCons (eTup (aCons (eUn gNeg (eC (.int 1))) (aCons (eC (.int 1)) aNil))) (aCons (eTup (aCons (eC (.int 2)) (aCons (eC (.int 1)) aNil))) (aCons (eTup (aCons (eC (.int 1)) (aCons (eC (.int 2)) aNil))) (aCons (eTup (aCons (eUn gNeg (eC (.int 3))) (aCons (eC (.int 2)) aNil))) (aCons (eTup (aCons (eC (.int 5)) (aCons (eC (.int 3)) aNil))) (aCons (eTup (aCons (eUn gNeg (eC (.int 7))) (aCons (eC (.int 1)) aNil))) aNil)))))))) (eOp gMod (eVar 0) (eC (.int 7)))))
noncomputable abbrev M__law_fraction : List O → Res O := runF 1 B__law_fraction
noncomputable def B_is_choose : FS := (sSeq (sIf (tOrD (tNotD (tOf (eCall M_within (aCons (eVar 0) (aCons (eC (.int 0)) (aCons (eC (.int 3)) (aCons (eC (.int 9)) aNil))))))) (tNotD (tOf (eCall M_within (aCons (eVar 1) (aCons (eUn gNeg (eC (.int 3))) (aCons (eC (.int 3)) (aCons (eC (.int 9)) aNil)))))))) (sRet (eC (.bl false))) sNil) (sSeq (sFor (iLst (eLst (aCons (eVar 1) (aCons (eTup (aCons (eOp gSub (eIx (eVar 0) (eC (.int 0))) (eIx (eVar 1) (eC (.int 0)))) (aCons (eOp gSub (eIx (eVar 0) (eC (.int 1))) (eIx (eVar 1) (eC (.int 1)))) (aCons (eOp gSub (eIx (eVar 0) (eC (.int 2))) (eIx (eVar 1) (eC (.int 2)))) aNil)))) aNil)))) (gN 2) (sIf (tAndD (tOf (eOp gEq (eIx (eVar 2) (eC (.int 0))) (eC (.int 0)))) (tOf (eOp gLt (eIx (eVar 2) (eC (.int 1))) (eC (.int 0))))) (sRet (eC (.bl false))) sNil)) (sRet (eC (.bl true)))))
noncomputable abbrev M_is_choose : List O → Res O := runF 3 B_is_choose
noncomputable def B__law_lows : FS := (sRet (eLst (aCons (eIx (eVar 0) (eC (.int 2))) (aCons (eCall M__law_less (aCons (eIx (eVar 0) (eC (.int 1))) (aCons (eIx (eVar 0) (eC (.int 2))) aNil))) aNil))))
noncomputable abbrev M__law_lows : List O → Res O := runF 1 B__law_lows
noncomputable def B_pair_times : FS := (sSeq (sSet 2 true eDNew) (sSeq (sForDI 0 3 4 (sForDI 1 5 6 (sSeq (sSet 7 false (eTup (aCons (eOp gAddA (eIx (eVar 3) (eC (.int 0))) (eIx (eVar 5) (eC (.int 0)))) (aCons (eOp gAddA (eIx (eVar 3) (eC (.int 1))) (eIx (eVar 5) (eC (.int 1)))) aNil)))) (sDPutL 2 (eOp gAddA (eDGet2 2 (eVar 7) 0) (eOp gMulA (eVar 4) (eVar 6))) (eVar 7))))) (sRet (eCall M_without_noughts (aCons (eVar 2) aNil)))))
noncomputable abbrev M_pair_times : List O → Res O := runF 8 B_pair_times
noncomputable def B_Growth_step : FS := (sRet (eDspT (((eTup (aCons (eC (.int 0)) (aCons (eC (.int 0)) aNil))), (eOp gMulA (eIx (eCall M_raised (aCons (eFld TF_fraction "fraction" (eVar 0)) (aCons (eVar 1) aNil))) (eC (.int 0))) (eIx (eCall M_raised (aCons (eFld TF_fraction "fraction" (eVar 0)) (aCons (eOp gSub (eVar 2) (eVar 1)) aNil))) (eC (.int 1))))) :: [])))
noncomputable abbrev M_Growth_step : List O → Res O := runF 3 B_Growth_step
noncomputable def B_pair_of_form : FS := (sRet (eCall M_without_noughts (aCons (eDspT (((eTup (aCons (eC (.int 1)) (aCons (eC (.int 0)) aNil))), (eIx (eVar 0) (eC (.int 0)))) :: (((eTup (aCons (eC (.int 0)) (aCons (eC (.int 1)) aNil))), (eIx (eVar 0) (eC (.int 1)))) :: (((eTup (aCons (eC (.int 0)) (aCons (eC (.int 0)) aNil))), (eIx (eVar 0) (eC (.int 2)))) :: [])))) aNil)))
noncomputable abbrev M_pair_of_form : List O → Res O := runF 1 B_pair_of_form
noncomputable def B_low_forms : FS := (sSeq (sSet 1 true (eLst aNil)) (sSeq (sFor (iLst (eMeth [("Term", M_Term_told)] "told" (eVar 0) aNil)) (gN 2) (sIf (tOf (eOp gEq (eIx (eVar 2) (eC (.int 0))) (eC (.str "choose")))) (sSeq (sSet 3 false (eIx (eVar 2) (eC (.int 1)))) (sSeq (sSet 4 false (eIx (eVar 2) (eC (.int 2)))) (sSeq (sApp 1 (eVar 4)) (sApp 1 (eTup (aCons (eOp gSub (eIx (eVar 3) (eC (.int 0))) (eIx (eVar 4) (eC (.int 0)))) (aCons (eOp gSub (eIx (eVar 3) (eC (.int 1))) (eIx (eVar 4) (eC (.int 1)))) (aCons (eOp gSub (eIx (eVar 3) (eC (.int 2))) (eIx (eVar 4) (eC (.int 2)))) aNil)))))))) sNil)) (sRetV 1)))
noncomputable abbrev M_low_forms : List O → Res O := runF 5 B_low_forms
noncomputable def B__law_any : FS := (sSeq (sSet 2 false (eTup (aCons (eOp gMod (eVar 0) (eC (.int 3))) (aCons (eOp gMod (eOp gDiv (eVar 0) (eC (.int 3))) (eC (.int 3))) (aCons (eOp gMod (eOp gDiv (eVar 0) (eC (.int 9))) (eC (.int 3))) aNil))))) (sSeq (sSet 3 false (eTup (aCons (eOp gSub (eOp gMod (eVar 1) (eC (.int 5))) (eC (.int 2))) (aCons (eOp gSub (eOp gMod (eOp gDiv (eVar 1) (eC (.int 5))) (eC (.int 5))) (eC (.int 2))) (aCons (eOp gSub (eOp gMod (eOp gDiv (eVar 1) (eC (.int 25))) (eC (.int 5))) (eC (.int 2))) aNil))))) (sSeq (sFor (iLst (eLst (aCons (eVar 3) (aCons (eCall M__law_less (aCons (eVar 2) (aCons (eVar 3) aNil))) aNil)))) (gN 4) (sIf (tAndD (tOf (eOp gEq (eIx (eVar 4) (eC (.int 0))) (eC (.int 0)))) (tOf (eOp gLt (eIx (eVar 4) (eC (.int 1))) (eC (.int 0))))) (sRet (eTup (aCons (eC (.str "choose")) (aCons (eTup (aCons (eC (.int 1)) (aCons (eC (.int 0)) (aCons (eC (.int 0)) aNil)))) (aCons (eTup (aCons (eC (.int 0)) (aCons (eC (.int 1)) (aCons (eC (.int 0)) aNil)))) aNil))))) sNil)) (sRet (eTup (aCons (eC (.str "choose")) (aCons (eVar 2) (aCons (eVar 3) aNil))))))))
noncomputable abbrev M__law_any : List O → Res O := runF 5 B__law_any
noncomputable def B_has_ends : FS := (sSeq (sSet 1 false (eC (.bl false))) (sSeq (sSet 2 false (eC (.bl false))) (sSeq (sFor (iLst (eCall M_low_forms (aCons (eVar 0) aNil))) (gT [(gN 3), (gN 4), (gN 5)]) (sSeq (sIf (tAndD (tOf (eOp gLt (eVar 4) (eC (.int 0)))) (tAndD (tOf (eOp gLe (eOp gAddA (eVar 3) (eVar 4)) (eC (.int 0)))) (tOf (eOp gLt (eOp gAddA (eVar 4) (eVar 5)) (eC (.int 0)))))) (sSet 1 false (eC (.bl true))) sNil) (sIf (tAndD (tOf (eOp gEq (eVar 3) (eC (.int 0)))) (tAndD (tOf (eOp gGt (eVar 4) (eC (.int 0)))) (tOf (eChain gLe gLt (eC (.int 0)) (eVar 5) (eVar 4))))) (sSet 2 false (eC (.bl true))) sNil))) (sRet (eAnd (eVar 1) (eVar 2))))))
noncomputable abbrev M_has_ends : List O → Res O := runF 6 B_has_ends
noncomputable def B__law_ends : FS := (sSeq (sSet 1 false (eC (.int 0))) (sSeq (sSet 2 false (eC (.int 0))) (sSeq (sFor (iLst (eVar 0)) (gN 3) (sIf (tOf (eOp gEq (eIx (eVar 3) (eC (.int 0))) (eC (.str "choose")))) (sFor (iLst (eCall M__law_lows (aCons (eVar 3) aNil))) (gN 4) (sSeq (sSet 1 false (eOp gAddA (eVar 1) (eB gIntB (aCons (eAnd (eOp gLt (eIx (eVar 4) (eC (.int 1))) (eC (.int 0))) (eAnd (eOp gLe (eOp gAddA (eIx (eVar 4) (eC (.int 0))) (eIx (eVar 4) (eC (.int 1)))) (eC (.int 0))) (eOp gLt (eOp gAddA (eIx (eVar 4) (eC (.int 1))) (eIx (eVar 4) (eC (.int 2)))) (eC (.int 0))))) aNil)))) (sSet 2 false (eOp gAddA (eVar 2) (eB gIntB (aCons (eAnd (eOp gEq (eIx (eVar 4) (eC (.int 0))) (eC (.int 0))) (eAnd (eOp gGt (eIx (eVar 4) (eC (.int 1))) (eC (.int 0))) (eAnd (eOp gGe (eIx (eVar 4) (eC (.int 2))) (eC (.int 0))) (eOp gLt (eIx (eVar 4) (eC (.int 2))) (eIx (eVar 4) (eC (.int 1))))))) aNil)))))) sNil)) (sRet (eAnd (eOp gGt (eVar 1) (eC (.int 0))) (eOp gGt (eVar 2) (eC (.int 0))))))))
noncomputable abbrev M__law_ends : List O → Res O := runF 5 B__law_ends
noncomputable def B__law_up_and_down : FS := (sSeq (sSet 2 false (eC (.int 0))) (sSeq (sSet 3 false (eC (.int 0))) (sSeq (sFor (iLst (eVar 0)) (gN 4) (sIf (tOf (eOp gEq (eIx (eVar 4) (eC (.int 0))) (eC (.str "choose")))) (sSeq (sIf (tOf (eOp gNe (eIx (eIx (eVar 4) (eC (.int 1))) (eVar 1)) (eC (.int 0)))) (sSet 2 false (eOp gAddA (eVar 2) (eIx (eIx (eVar 4) (eC (.int 1))) (eC (.int 1))))) sNil) (sFor (iLst (eCall M__law_lows (aCons (eVar 4) aNil))) (gN 5) (sSeq (sIf (tAndD (tOf (eOp gNe (eIx (eVar 5) (eVar 1)) (eC (.int 0)))) (tOf (eOp gLt (eIx (eVar 5) (eC (.int 1))) (eC (.int 0))))) (sSet 2 false (eOp gSub (eVar 2) (eIx (eVar 5) (eC (.int 1))))) sNil) (sIf (tAndD (tOf (eOp gNe (eIx (eVar 5) (eVar 1)) (eC (.int 0)))) (tOf (eOp gGt (eIx (eVar 5) (eC (.int 1))) (eC (.int 0))))) (sSet 3 false (eOp gAddA (eVar 3) (eIx (eVar 5) (eC (.int 1))))) sNil)))) sNil)) (sRet (eB gMax2 (aCons (eVar 2) (aCons (eVar 3) aNil)))))))
noncomputable abbrev M__law_up_and_down : List O → Res O := runF 6 B__law_up_and_down
noncomputable def B_made_part : FS := (sSeq (sSet 1 false (eIx (eVar 0) (eC (.int 0)))) (sSeq (sIf (tAndD (tOf (eOp gEq (eVar 1) (eC (.str "choose")))) (tOf (eCall M_is_choose (aCons (eIx (eVar 0) (eC (.int 1))) (aCons (eIx (eVar 0) (eC (.int 2))) aNil))))) (sRet (eMake M_Choose___init__ (aCons (eIx (eVar 0) (eC (.int 1))) (aCons (eIx (eVar 0) (eC (.int 2))) aNil)))) sNil) (sSeq (sIf (tOf (eOp gEq (eVar 1) (eC (.str "weight")))) (sRet (eMake M_Weight___init__ (aCons (eIx (eVar 0) (eC (.int 1))) aNil))) sNil) (sSeq (sIf (tAndD (tOf (eOp gEq (eVar 1) (eC (.str "power")))) (tOf (eOp gNe (eIx (eIx (eVar 0) (eC (.int 1))) (eC (.int 0))) (eC (.int 0))))) (sRet (eMake M_Power___init__ (aCons (eIx (eVar 0) (eC (.int 1))) aNil))) sNil) (sSeq (sIf (tAndD (tOf (eOp gEq (eVar 1) (eC (.str "growth")))) (tOf (eOp gNe (eIx (eIx (eVar 0) (eC (.int 1))) (eC (.int 0))) (eC (.int 0))))) (sRet (eMake M_Growth___init__ (aCons (eIx (eVar 0) (eC (.int 1))) aNil))) sNil) (sRaise "NoTerm"))))))
noncomputable abbrev M_made_part : List O → Res O := runF 2 B_made_part
noncomputable def B__law_step : FS := (sSeq (sSet 4 false (eC (.int 0))) (sSeq (sFor (iLst (eVar 0)) (gN 5) (sSeq (sIf (tOf (eOp gEq (eIx (eVar 5) (eC (.int 0))) (eC (.str "weight")))) (sSeq (sIf (tOf (eOp gEq (eIx (eVar 5) (eC (.int 1))) (eTup (aCons (eC (.int 0)) (aCons (eC (.int 0)) (aCons (eC (.int 0)) aNil)))))) (sRet (eC (.int 0))) sNil) (sSet 4 false (eOp gAddA (eVar 4) (eB gIntB (aCons (eOp gNe (eIx (eIx (eVar 5) (eC (.int 1))) (eVar 3)) (eC (.int 0))) aNil))))) sNil) (sIf (tOf (eOp gEq (eIx (eVar 5) (eC (.int 0))) (eC (.str "choose")))) (sSeq (sIf (tOf (eOp gNe (eIx (eIx (eVar 5) (eC (.int 1))) (eVar 3)) (eC (.int 0)))) (sSet 4 false (eOp gAddA (eVar 4) (eOp gMulA (eVar 1) (eIx (eIx (eVar 5) (eC (.int 1))) (eC (.int 0)))))) sNil) (sFor (iLst (eCall M__law_lows (aCons (eVar 5) aNil))) (gN 6) (sIf (tOf (eOp gNe (eIx (eVar 6) (eVar 3)) (eC (.int 0)))) (sSet 4 false (eOp gSub (eOp gAddA (eVar 4) (eOp gMulA (eB gMax2 (aCons (eC (.int 0)) (aCons (eIx (eVar 6) (eC (.int 0))) aNil))) (eVar 2))) (eOp gMulA (eIx (eVar 6) (eC (.int 0))) (eVar 1)))) sNil))) sNil))) (sRet (eVar 4))))
noncomputable abbrev M__law_step : List O → Res O := runF 7 B__law_step
noncomputable def B_Weight_step : FS := (sRet (eCall M_pair_of_form (aCons (eTup (aCons (eIx (eFld TF_form "form" (eVar 0)) (eC (.int 0))) (aCons (eIx (eFld TF_form "form" (eVar 0)) (eC (.int 1))) (aCons (eOp gAddA (eIx (eFld TF_form "form" (eVar 0)) (eC (.int 2))) (eOp gMulA (eVar 1) (eIx (eFld TF_form "form" (eVar 0)) (eC (.int 0))))) aNil)))) aNil)))
noncomputable abbrev M_Weight_step : List O → Res O := runF 3 B_Weight_step
noncomputable def B_rising : FS := (sSeq (sSet 3 false (eDspT (((eTup (aCons (eC (.int 0)) (aCons (eC (.int 0)) aNil))), (eC (.int 1))) :: []))) (sSeq (sFor (iRng rng2 (aCons (eVar 1) (aCons (eOp gAddA (eVar 2) (eC (.int 1))) aNil))) (gN 4) (sSet 3 false (eCall M_pair_times (aCons (eVar 3) (aCons (eCall M_pair_of_form (aCons (eTup (aCons (eIx (eVar 0) (eC (.int 0))) (aCons (eIx (eVar 0) (eC (.int 1))) (aCons (eOp gAddA (eIx (eVar 0) (eC (.int 2))) (eVar 4)) aNil)))) aNil)) aNil))))) (sRet (eVar 3))))
noncomputable abbrev M_rising : List O → Res O := runF 5 B_rising
noncomputable def B__law_choose : FS := (sSeq (sSet 2 false (eCall M__law_cell_at (aCons (eVar 0) (aCons (eVar 1) aNil)))) (sSeq (sSet 3 false (eOp gMod (eVar 2) (eC (.int 8)))) (sSeq (sSet 4 false (eOp gMod (eOp gDiv (eVar 2) (eC (.int 8))) (eC (.int 3)))) (sSeq (sIf (tOf (eOp gLt (eVar 3) (eC (.int 2)))) (sRet (eTup (aCons (eC (.str "choose")) (aCons (eTup (aCons (eC (.int 1)) (aCons (eC (.int 0)) (aCons (eVar 4) aNil)))) (aCons (eTup (aCons (eC (.int 0)) (aCons (eC (.int 1)) (aCons (eC (.int 0)) aNil)))) aNil))))) sNil) (sSeq (sIf (tOf (eOp gEq (eVar 3) (eC (.int 2)))) (sRet (eTup (aCons (eC (.str "choose")) (aCons (eTup (aCons (eC (.int 1)) (aCons (eC (.int 1)) (aCons (eVar 4) aNil)))) (aCons (eTup (aCons (eC (.int 0)) (aCons (eC (.int 1)) (aCons (eC (.int 0)) aNil)))) aNil))))) sNil) (sSeq (sIf (tOf (eOp gEq (eVar 3) (eC (.int 3)))) (sRet (eTup (aCons (eC (.str "choose")) (aCons (eTup (aCons (eC (.int 1)) (aCons (eC (.int 0)) (aCons (eC (.int 0)) aNil)))) (aCons (eTup (aCons (eC (.int 0)) (aCons (eC (.int 2)) (aCons (eOp gSub (eVar 4) (eC (.int 1))) aNil)))) aNil))))) sNil) (sSeq (sIf (tOf (eOp gEq (eVar 3) (eC (.int 4)))) (sRet (eTup (aCons (eC (.str "choose")) (aCons (eTup (aCons (eC (.int 1)) (aCons (eC (.int 1)) (aCons (eC (.int 0)) aNil)))) (aCons (eTup (aCons (eC (.int 0)) (aCons (eC (.int 2)) (aCons (eC (.int 0)) aNil)))) aNil))))) sNil) (sSeq (sIf (tOf (eOp gEq (eVar 3) (eC (.int 5)))) (sRet (eTup (aCons (eC (.str "choose")) (aCons (eTup (aCons (eC (.int 2)) (aCons (eC (.int 0)) (aCons (eVar 4) aNil)))) (aCons (eTup (aCons (eC (.int 1)) (aCons (eC (.int 0)) (aCons (eC (.int 0)) aNil)))) aNil))))) sNil) (sRet (eCall M__law_any (aCons (eOp gDiv (eVar 2) (eC (.int 8))) (aCons (eCall M__law_cell_at (aCons (eVar 0) (aCons (eOp gAddA (eVar 1) (eC (.int 1))) aNil))) aNil))))))))))))
noncomputable abbrev M__law_choose : List O → Res O := runF 5 B__law_choose
noncomputable def B__law_parts : FS := (sSeq (sSet 1 false (eCall M__law_cell_at (aCons (eVar 0) (aCons (eC (.int 0)) aNil)))) (sSeq (sSet 2 true (eLst (aCons (eCall M__law_choose (aCons (eVar 0) (aCons (eC (.int 1)) aNil))) aNil))) (sSeq (sIf (tOf (eOp gEq (eOp gMod (eVar 1) (eC (.int 3))) (eC (.int 1)))) (sApp 2 (eCall M__law_choose (aCons (eVar 0) (aCons (eC (.int 3)) aNil)))) sNil) (sSeq (sFor (iRng rng1 (aCons (eOp gMod (eOp gDiv (eVar 1) (eC (.int 3))) (eC (.int 3))) aNil)) (gN 3) (sSeq (sSet 4 false (eCall M__law_cell_at (aCons (eVar 0) (aCons (eOp gAddA (eC (.int 5)) (eVar 3)) aNil)))) (sApp 2 (eTup (aCons (eC (.str "weight")) (aCons (eTup (aCons (eOp gSub (eOp gMod (eVar 4) (eC (.int 5))) (eC (.int 2))) (aCons (eOp gSub (eOp gMod (eOp gDiv (eVar 4) (eC (.int 5))) (eC (.int 5))) (eC (.int 2))) (aCons (eOp gSub (eOp gMod (eOp gDiv (eVar 4) (eC (.int 25))) (eC (.int 5))) (eC (.int 2))) aNil)))) aNil)))))) (sSeq (sIf (tOf (eOp gEq (eOp gMod (eOp gDiv (eVar 1) (eC (.int 9))) (eC (.int 2))) (eC (.int 1)))) (sApp 2 (eTup (aCons (eC (.str "power")) (aCons (eCall M__law_fraction (aCons (eCall M__law_cell_at (aCons (eVar 0) (aCons (eC (.int 7)) aNil))) aNil)) aNil)))) sNil) (sSeq (sIf (tOf (eOp gEq (eOp gMod (eOp gDiv (eVar 1) (eC (.int 18))) (eC (.int 3))) (eC (.int 1)))) (sApp 2 (eTup (aCons (eC (.str "growth")) (aCons (eCall M__law_fraction (aCons (eCall M__law_cell_at (aCons (eVar 0) (aCons (eC (.int 8)) aNil))) aNil)) aNil)))) sNil) (sSeq (sSet 5 false (eOp gMod (eOp gDiv (eVar 1) (eC (.int 54))) (eB gLen (aCons (eVar 2) aNil)))) (sRet (eOp gAddA (eSl (eVar 2) (pSome (eVar 5)) pNone) (eSl (eVar 2) pNone (pSome (eVar 5))))))))))))
noncomputable abbrev M__law_parts : List O → Res O := runF 6 B__law_parts
noncomputable def B_Term___init__ : FS := (sSeq (sIf (tOrD (tOf (eOp gEq (eVar 1) (eLst aNil))) (tOf (eOp gGt (eB gLen (aCons (eVar 1) aNil)) (eC (.int 6))))) (sRaise "NoTerm") sNil) (sSeq (sFldM TF_made 0 "made" (eLcD (iLst (eVar 1)) (gN 2) [2] tYesD (eCall M_made_part (aCons (eVar 2) aNil)))) (sFldM TF_words 0 "words" (eB gList (aCons (eVar 1) aNil)))))
noncomputable def M_Term___init__ : List O → Res O := fun os => mI fun a => runI 3 "Term" B_Term___init__ a os
theorem imp_Term___init__ (a : PySem.Addr) : ∀ os : List O, os.length = 1 → M_Term___init__ os = .bad ∨ M_Term___init__ os = runI 3 "Term" B_Term___init__ a os := fun os _ => mI_imp a
noncomputable def B_Choose_up : FS := (sSeq (sSet 2 false (eCall M_rising (aCons (eFld TF_high "high" (eVar 0)) (aCons (eC (.int 1)) (aCons (eIx (eFld TF_high "high" (eVar 0)) (eC (.int 1))) aNil))))) (sSeq (sFor (iLst (eMeth [("Choose", M_Choose_raised_lows)] "raised_lows" (eVar 0) (aCons (eVar 1) aNil))) (gN 3) (sSet 2 false (eCall M_pair_times (aCons (eVar 2) (aCons (eCall M_rising (aCons (eVar 3) (aCons (eOp gAddA (eIx (eVar 3) (eC (.int 1))) (eC (.int 1))) (aCons (eC (.int 0)) aNil)))) aNil))))) (sRet (eVar 2))))
noncomputable abbrev M_Choose_up : List O → Res O := runF 4 B_Choose_up
noncomputable def B_Choose_down : FS := (sSeq (sSet 2 false (eDspT (((eTup (aCons (eC (.int 0)) (aCons (eC (.int 0)) aNil))), (eC (.int 1))) :: []))) (sSeq (sFor (iLst (eMeth [("Choose", M_Choose_raised_lows)] "raised_lows" (eVar 0) (aCons (eVar 1) aNil))) (gN 3) (sSet 2 false (eCall M_pair_times (aCons (eVar 2) (aCons (eCall M_rising (aCons (eVar 3) (aCons (eC (.int 1)) (aCons (eIx (eVar 3) (eC (.int 1))) aNil)))) aNil))))) (sRet (eVar 2))))
noncomputable abbrev M_Choose_down : List O → Res O := runF 4 B_Choose_down
noncomputable def B_Choose_step : FS := (sSeq (sSet 3 false (eCall M_rising (aCons (eFld TF_high "high" (eVar 0)) (aCons (eC (.int 1)) (aCons (eOp gMulA (eVar 1) (eIx (eFld TF_high "high" (eVar 0)) (eC (.int 0)))) aNil))))) (sSeq (sFor (iLst (eFld TF_lows "lows" (eVar 0))) (gN 4) (sSet 3 false (eCall M_pair_times (aCons (eVar 3) (aCons (eCall M_rising (aCons (eVar 4) (aCons (eOp gAddA (eOp gMulA (eVar 1) (eIx (eVar 4) (eC (.int 0)))) (eC (.int 1))) (aCons (eB gMax2 (aCons (eC (.int 0)) (aCons (eOp gMulA (eVar 2) (eIx (eVar 4) (eC (.int 0)))) aNil))) aNil)))) aNil))))) (sRet (eVar 3))))
noncomputable abbrev M_Choose_step : List O → Res O := runF 5 B_Choose_step
noncomputable def B_Term_frame : FS := (sSeq (sSet 2 false (eLcD (iRng rng1 (aCons (eOp gAddA (eVar 1) (eC (.int 1))) aNil)) (gN 6) [6] tYesD (eDspT (((eTup (aCons (eC (.int 0)) (aCons (eC (.int 0)) aNil))), (eC (.int 1))) :: [])))) (sSeq (sSet 3 false (eDspT (((eTup (aCons (eC (.int 0)) (aCons (eC (.int 0)) aNil))), (eC (.int 1))) :: []))) (sSeq (sSet 4 false (eDspT (((eTup (aCons (eC (.int 0)) (aCons (eC (.int 0)) aNil))), (eC (.int 1))) :: []))) (sSeq (sFor (iLst (eFld TF_made "made" (eVar 0))) (gN 5) (sSeq (sSet 2 false (eLcD (iEnumD (eVar 2)) (gT [(gN 6), (gN 7)]) [6, 7] tYesD (eCall M_pair_times (aCons (eVar 7) (aCons (eMeth [("Choose", M_Choose_step), ("Weight", M_Weight_step), ("Power", M_Part_step), ("Growth", M_Growth_step)] "step" (eVar 5) (aCons (eVar 6) (aCons (eVar 1) aNil))) aNil))))) (sSeq (sSet 3 false (eCall M_pair_times (aCons (eVar 3) (aCons (eMeth [("Choose", M_Choose_up), ("Weight", M_Part_up), ("Power", M_Power_up), ("Growth", M_Part_up)] "up" (eVar 5) (aCons (eVar 1) aNil)) aNil)))) (sSet 4 false (eCall M_pair_times (aCons (eVar 4) (aCons (eMeth [("Choose", M_Choose_down), ("Weight", M_Part_down), ("Power", M_Power_down), ("Growth", M_Part_down)] "down" (eVar 5) (aCons (eVar 1) aNil)) aNil))))))) (sRet (eTup (aCons (eVar 2) (aCons (eVar 3) (aCons (eVar 4) aNil)))))))))
noncomputable abbrev M_Term_frame : List O → Res O := runF 8 B_Term_frame
noncomputable def B_breadth_of : FS := (sSeq (sAsgT (gT [(gN 1), (gN 2), (gN 3)]) (eMeth [("Term", M_Term_frame)] "frame" (eVar 0) (aCons (eC (.int 0)) aNil))) (sRet (eB gMax2 (aCons (eCall M_degree_in_k (aCons (eVar 2) aNil)) (aCons (eCall M_degree_in_k (aCons (eVar 3) aNil)) aNil)))))
noncomputable abbrev M_breadth_of : List O → Res O := runF 4 B_breadth_of
noncomputable def B_length_of : FS := (sSeq (sAsgT (gT [(gN 2), (gN 3), (gN 4)]) (eMeth [("Term", M_Term_frame)] "frame" (eVar 0) (aCons (eVar 1) aNil))) (sSeq (sSet 5 false (eC (.int 0))) (sSeq (sFor (iLst (eOp gAddA (eVar 2) (eLst (aCons (eVar 3) (aCons (eVar 4) aNil))))) (gN 6) (sForDK2 6 7 8 (sSet 5 false (eB gMax2 (aCons (eVar 5) (aCons (eVar 7) aNil)))))) (sRet (eVar 5)))))
noncomputable abbrev M_length_of : List O → Res O := runF 9 B_length_of
noncomputable def B_height_of : FS := (sRet (eB gMaxL (aCons (eLcD (iLst (eIx (eMeth [("Term", M_Term_frame)] "frame" (eVar 0) (aCons (eVar 1) aNil)) (eC (.int 0)))) (gN 2) [2] tYesD (eCall M_degree_in_k (aCons (eVar 2) aNil))) aNil)))
noncomputable abbrev M_height_of : List O → Res O := runF 3 B_height_of
noncomputable def B__law_for : FS := (sSeq (sIf (tNotD (tOf (eCall M__law_is (aCons (eCall M_height_of (aCons (eVar 0) (aCons (eVar 2) aNil))) (aCons (eB gMaxL (aCons (eLcD (iRng rng1 (aCons (eOp gAddA (eVar 2) (eC (.int 1))) aNil)) (gN 4) [4] tYesD (eCall M__law_step (aCons (eVar 1) (aCons (eVar 4) (aCons (eVar 2) (aCons (eC (.int 1)) aNil)))))) aNil)) aNil))))) (sRet (eC (.bl false))) sNil) (sSeq (sSet 3 false (eB gMaxL (aCons (eOp gAddA (eLcD (iRng rng1 (aCons (eOp gAddA (eVar 2) (eC (.int 1))) aNil)) (gN 4) [4] tYesD (eCall M__law_step (aCons (eVar 1) (aCons (eVar 4) (aCons (eVar 2) (aCons (eC (.int 0)) aNil)))))) (eLst (aCons (eCall M__law_up_and_down (aCons (eVar 1) (aCons (eC (.int 0)) aNil))) aNil))) aNil))) (sRet (eCall M__law_is (aCons (eCall M_length_of (aCons (eVar 0) (aCons (eVar 2) aNil))) (aCons (eVar 3) aNil))))))
noncomputable abbrev M__law_for : List O → Res O := runF 5 B__law_for
noncomputable def B_law : FS := (sSeq (sSet 1 false (eCall M__law_parts (aCons (eVar 0) aNil))) (sSeq (sSet 2 false (eB gList (aCons (eVar 1) aNil))) (sSeq (sSet 3 false (eMake M_Term___init__ (aCons (eVar 2) aNil))) (sSeq (sSet 4 false (eCall M_has_ends (aCons (eVar 3) aNil))) (sSeq (sIf (tOrD (tNotD (tOf (eIsi .bl (eVar 4)))) (tOf (eOp gNe (eVar 4) (eCall M__law_ends (aCons (eVar 1) aNil))))) (sRet (eC (.bl false))) sNil) (sSeq (sIf (tNotD (tOf (eCall M__law_is (aCons (eCall M_breadth_of (aCons (eVar 3) aNil)) (aCons (eCall M__law_up_and_down (aCons (eVar 1) (aCons (eC (.int 1)) aNil))) aNil))))) (sRet (eC (.bl false))) sNil) (sSeq (sSet 5 false (eOp gMod (eCall M__law_cell_at (aCons (eVar 0) (aCons (eC (.int 9)) aNil))) (eC (.int 3)))) (sSeq (sFor (iRng rng1 (aCons (eC (.int 3)) aNil)) (gN 6) (sIf (tNotD (tOf (eCall M__law_for (aCons (eVar 3) (aCons (eVar 1) (aCons (eOp gMod (eOp gAddA (eVar 5) (eVar 6)) (eC (.int 3))) aNil)))))) (sRet (eC (.bl false))) sNil)) (sRet (eAnd (eOp gEq (eVar 2) (eVar 1)) (eAnd (eOp gEq (eMeth [("Term", M_Term_told)] "told" (eVar 3) aNil) (eVar 1)) (eOp gEq (eCall M_has_ends (aCons (eVar 3) aNil)) (eVar 4)))))))))))))
theorem imp__law_cell_at : ∀ os : List O, os.length = 2 → M__law_cell_at os = .bad ∨ M__law_cell_at os = runF 2 B__law_cell_at os := by
  intro os h
  unfold M__law_cell_at
  split
  · rename_i ns k
    by_cases hk : 0 ≤ k
    · right
      rw [if_pos hk]
      symm
      by_cases hl : k < (ns.length : Int)
      · have a0 : eIx (eVar 0) (eVar 1) [.vl false (.fz (.scr ns)), .vl false (.fz (.int k))] = .ok (.nw (I ns[k.toNat])) := ix_scr (k := k) (by simp [eVar]) (by simp [eVar]) (by omega) (by omega)
        have e : cellAt ns k = ns[k.toNat] := by
          unfold cellAt
          rw [List.getD_eq_getElem?_getD, List.getElem?_eq_getElem (by omega)]
          rfl
        rw [e]
        exact run_ret (seq_ret (if_t (by simp [eVar, startE, hl]) (ret_go a0)))
      · have e : cellAt ns k = 0 := by
          unfold cellAt
          rw [List.getD_eq_getElem?_getD, List.getElem?_eq_none (by omega)]
          rfl
        rw [e]
        refine run_ret (seq_go (if_f (by simp [eVar, startE]; omega) rfl) (by simp))
    · left; rw [if_neg hk]
  · exact .inl rfl
theorem ix_t {f : FE} {r : Env} {ds : List D} {d : D} (k : Nat) (h : f r = .ok (.nw (.fz (.tup ds)))) (hd : ds[k]? = some d) : eIx f (eC (.int k)) r = .ok (.nw (.fz d)) := by
  have e : ixO (.fz (.tup ds)) (k : Int) = some (.fz d) := by
    show (atI ds (k : Int)).map O.fz = _
    rw [atI_ok (v := d) (by omega) (by rw [Int.toNat_natCast]; exact hd)]; rfl
  exact ix_nw h (eC_ev _) e
theorem e_t3 {f g h : FE} {r : Env} {a b c : Int} (h1 : f r = .ok (.nw (I a))) (h2 : g r = .ok (.nw (I b))) (h3 : h r = .ok (.nw (I c))) : eTup (aCons f (aCons g (aCons h aNil))) r = .ok (.nw (.fz (t3 (a, b, c)))) := by
  simp only [eTup, aCons_ev, h1, h2, h3, res_ok, aNil_ev]; rfl
theorem t_andT {ft gt : Env → Res Bool} {r : Env} {a b : Bool} (h : ft r = .ok a) (h2 : a = true → gt r = .ok b) : tAndD ft gt r = .ok (a && b) := by
  rw [tAnd_ev, h, res_ok]; cases a <;> simp [h2]
theorem t_orT {ft gt : Env → Res Bool} {r : Env} {a b : Bool} (h : ft r = .ok a) (h2 : a = false → gt r = .ok b) : tOrD ft gt r = .ok (a || b) := by
  rw [tOr_ev, h, res_ok]; cases a <;> simp [h2]
theorem e_modV {f g : FE} {r : Env} {a b : Int} (h : f r = .ok (.nw (I a))) (h2 : g r = .ok (.nw (I b))) (hb : b ≠ 0) : eOp gMod f g r = .ok (.nw (I (a.fmod b))) := by
  rw [op_of h h2]; exact gMod_ev hb
theorem e_mul {f g : FE} {r : Env} {a b : Int} (m n : Nat) (h : f r = .ok (.nw (I a))) (h2 : g r = .ok (.nw (I b))) (ha : a.natAbs < 2 ^ m) (hb : b.natAbs < 2 ^ n) (h0 : 0 < m := by omega) (h1 : 0 < n := by omega) (h3 : m + n ≤ 1000000 := by omega) : eOp gMulA f g r = .ok (.nw (I (a * b))) := by
  rw [op_of h h2]; exact gMul_lt m n ha hb h0 h1 (Nat.le_trans h3 (by omega))
def okCh (h l : T3) : Prop := 0 ≤ h.1 ∧ h.1 ≤ 3 ∧ 0 ≤ h.2.1 ∧ h.2.1 ≤ 3 ∧ 0 ≤ h.2.2 ∧ h.2.2 ≤ 9 ∧ -3 ≤ l.1 ∧ l.1 ≤ 3 ∧ -3 ≤ l.2.1 ∧ l.2.1 ≤ 3 ∧ -9 ≤ l.2.2 ∧ l.2.2 ≤ 9 ∧ ¬(l.1 = 0 ∧ l.2.1 < 0) ∧ ¬(h.1 - l.1 = 0 ∧ h.2.1 - l.2.1 < 0)
theorem lcL_mapB {β : Type} {fg : FG} {f : FE} {r : Env} {g : β → R} {v : β → O} : ∀ (xs : List β) (acc : List O), (∀ x ∈ xs, ∃ r1, fg (g x) r = some r1 ∧ f r1 = .ok (.nw (v x))) → acc.length + xs.length ≤ 100000 → lcL fg tYesD f r (xs.map g) acc = .ok (.nw (.ls (acc ++ xs.map v)))
  | [], acc, _, _ => by simp [lcL]
  | x :: xs, acc, h, hl => by
    obtain ⟨r1, e1, e2⟩ := h x List.mem_cons_self
    simp only [List.length_cons] at hl
    have ih := lcL_mapB (fg := fg) (f := f) (r := r) (g := g) (v := v) xs (acc ++ [v x]) (fun y hy => h y (List.mem_cons_of_mem _ hy)) (by simp; omega)
    simp only [List.map_cons]
    unfold lcL
    simp only [e1, e2, tYes_ev, newO]
    rw [if_pos (by omega), ih]
    simp
theorem lcD_map {β : Type} {fi : Env → Res (List R)} {fg : FG} {vs : List Nat} {f : FE} {r : Env} {g : β → R} {v : β → O} {xs : List β} (hi : fi r = .ok (xs.map g)) (hv : vs.all (· < r.length) = true) (h : ∀ x ∈ xs, ∃ r1, fg (g x) (wipeE r vs) = some r1 ∧ f r1 = .ok (.nw (v x))) (hn : xs.length ≤ 100000) :
    eLcD fi fg vs tYesD f r = .ok (.nw (.ls (xs.map v))) := by
  simp only [eLcD, hi, res_ok, hv, if_true]
  rw [lcL_mapB (v := v) xs [] h (by simpa using hn)]
  simp
theorem iLst_ds {f : FE} {r : Env} {ds : List D} (h : f r = .ok (.nw (.fz (.lst ds)))) : iLst f r = .ok (ds.map fun d => .nw (.fz d)) := by
  simp [iLst, h, itsL]
def okFr (f : Int × Int) : Prop := f.1 ≠ 0 ∧ f.1.natAbs < 2 ^ 70 ∧ 1 ≤ f.2 ∧ f.2 ≤ 10 ^ 6 ∧ gcdI f.1 f.2 = 1
theorem gEq_str {x y : PySem.Str} (hx : plainD 0 (.str x) = true) (hy : plainD 0 (.str y) = true) : gEq (.fz (.str x)) (.fz (.str y)) = .ok (.nw (.fz (.bl (decide (x = y))))) := by
  have hs : ∀ {x : PySem.Str}, plainD 0 (.str x) = true → PySem.SeqAt.shaped (.str x) = true := fun {x} h => by
    obtain ⟨p, e1, e2, e3⟩ := plain_py 0 (.str x) h
    cases e1
    unfold PySem.SeqAt.shaped
    rw [e2, decide_eq_true (by omega)]; rfl
  show gEqD _ _ = _
  simp only [gEqD, er_fz, eqD, py, hs hx, hs hy, Bool.and_self, if_true]
  rw [show (PySem.PyData.str x).eqv (PySem.PyData.str y) = decide (x = y) from by rw [PySem.PyData.eqv]; by_cases h : x = y <;> simp [h]]
  rfl
def isCh : Pt → Bool
  | .ch _ _ => true
  | _ => false
def okPt : Pt → Prop
  | .ch h l => okCh h l
  | .wt f => f.1.natAbs < 2 ^ 200 ∧ f.2.1.natAbs < 2 ^ 200 ∧ f.2.2.natAbs < 2 ^ 200
  | .pw f => okFr f
  | .gr f => okFr f
abbrev oPt (ps : List Pt) : List O := ps.map fun p => .fz (ptD p)
abbrev LPt (ps : List Pt) : D := .lst (ps.map ptD)
theorem allFz_oPt (ps : List Pt) : allFz (oPt ps) = true := by induction ps with
  | nil => rfl
  | cons x xs ih => exact ih
theorem er_oPt (ps : List Pt) : er (.ls (oPt ps)) = LPt ps := by
  rw [er_ls, ers_eq, List.map_map]; rfl
theorem ptD_0 (p : Pt) : ∃ (x : PySem.Str) (ds : List D), ptD p = .tup (.str x :: ds) ∧ gEq (.fz (.str x)) (.fz (.str "choose")) = .ok (.nw (.fz (.bl (isCh p)))) := by
  cases p with
  | ch h l => exact ⟨"choose", _, rfl, by rw [gEq_str (by decide +kernel) (by decide +kernel)]; rfl⟩
  | wt f => exact ⟨"weight", _, rfl, by rw [gEq_str (by decide +kernel) (by decide +kernel)]; rfl⟩
  | pw f => exact ⟨"power", _, rfl, by rw [gEq_str (by decide +kernel) (by decide +kernel)]; rfl⟩
  | gr f => exact ⟨"growth", _, rfl, by rw [gEq_str (by decide +kernel) (by decide +kernel)]; rfl⟩
def wB (f : T3) (a b c : Int) : Bool := !(decide (minL f.1 [f.2.1] < a) || decide (b < maxL f.1 [f.2.1])) && (decide ((f.2.2.natAbs : Int) ≤ c) && (decide (a < 0) || decide (0 ≤ f.2.2)))
theorem within_ok (f : T3) (a b c : Int) : M_within [.fz (t3 f), I a, I b, I c] = .ok (.fz (.bl (wB f a b c))) := by
  let R : Env := [.vl false (.fz (t3 f)), .vl false (I a), .vl false (I b), .vl false (I c)]
  have e2 : eIx (eVar 0) (eC (.int 2)) R = .ok (.nw (I f.2.2)) := ix_t 2 rfl rfl
  have es : eSlT (eVar 0) pNone (pSome (eC (.int 2))) R = .ok (.nw (.fz (.tup [.int f.1, .int f.2.1]))) := rfl
  have t1 : tOf (eOp gLt (eB gMinT (aCons (eSlT (eVar 0) pNone (pSome (eC (.int 2)))) aNil)) (eVar 1)) R = .ok (decide (minL f.1 [f.2.1] < a)) := t_lt (by rw [b1 es]; rfl) rfl
  have t2 : tOf (eOp gGt (eB gMaxT (aCons (eSlT (eVar 0) pNone (pSome (eC (.int 2)))) aNil)) (eVar 2)) R = .ok (decide (b < maxL f.1 [f.2.1])) := t_gt (by rw [b1 es]; rfl) rfl
  have tt := t_orT t1 (fun _ => t2)
  have ea : eB gAbs (aCons (eIx (eVar 0) (eC (.int 2))) aNil) R = .ok (.nw (I f.2.2.natAbs)) := by
    rw [b1 e2]
    show gAbs [I f.2.2] = _
    rw [gAbs_ev, absI_eq]
  have ef : eAnd (eOp gLe (eB gAbs (aCons (eIx (eVar 0) (eC (.int 2))) aNil)) (eVar 3)) (eOr (eOp gLt (eVar 1) (eC (.int 0))) (eOp gGe (eIx (eVar 0) (eC (.int 2))) (eC (.int 0)))) R = .ok (.nw (.fz (.bl (decide ((f.2.2.natAbs : Int) ≤ c) && (decide (a < 0) || decide (0 ≤ f.2.2)))))) := by
    have a1 : eOp gLe (eB gAbs (aCons (eIx (eVar 0) (eC (.int 2))) aNil)) (eVar 3) R = .ok (.nw (.fz (.bl (decide ((f.2.2.natAbs : Int) ≤ c))))) := by rw [op_of ea (y := .nw (I c)) rfl]; rfl
    have a2 : eOp gLt (eVar 1) (eC (.int 0)) R = .ok (.nw (.fz (.bl (decide (a < 0))))) := by rw [op_of (x := .nw (I a)) rfl (eC_ev _)]; rfl
    have a3 : eOp gGe (eIx (eVar 0) (eC (.int 2))) (eC (.int 0)) R = .ok (.nw (.fz (.bl (decide (0 ≤ f.2.2))))) := by rw [op_of e2 (eC_ev _)]; rfl
    simp only [eAnd, eOr, a1, a2, a3, res_ok, ra_nw, er_fz, onB]
    cases decide ((f.2.2.natAbs : Int) ≤ c) <;> cases decide (a < 0) <;> rfl
  show runF 4 B_within _ = _
  unfold B_within wB
  generalize hb : (decide (minL f.1 [f.2.1] < a) || decide (b < maxL f.1 [f.2.1])) = q at tt
  cases q with
  | true => exact run_ret (seq_ret (if_t tt (ret_go rfl)))
  | false => exact run_ret (seq_go (if_f tt rfl) (ret_go ef))
theorem forL_ret {fg : FG} {F : FS} {x : R} {xs : List R} {r r1 : Env} {z : O} (h : fg x r = some r1) (h2 : F r1 = .ret z) : forL fg F (x :: xs) r = .ret z := by simp [forL, h, h2]
def icB (h l : T3) : Bool := wB h 0 3 9 && wB l (-3) 3 9 && !(decide (l.1 = 0) && decide (l.2.1 < 0)) && !(decide ((dif3 h l).1 = 0) && decide ((dif3 h l).2.1 < 0))
theorem choose_ok (h l : T3) : M_is_choose [.fz (t3 h), .fz (t3 l)] = .ok (.fz (.bl (icB h l))) := by
  let A : S := .vl false (.fz (t3 h))
  let B : S := .vl false (.fz (t3 l))
  have h0 : ∀ x, eIx (eVar 0) (eC (.int 0)) [A, B, x] = .ok (.nw (I h.1)) := fun x => ix_t 0 rfl rfl
  have h1 : ∀ x, eIx (eVar 0) (eC (.int 1)) [A, B, x] = .ok (.nw (I h.2.1)) := fun x => ix_t 1 rfl rfl
  have h2 : ∀ x, eIx (eVar 0) (eC (.int 2)) [A, B, x] = .ok (.nw (I h.2.2)) := fun x => ix_t 2 rfl rfl
  have l0 : ∀ x, eIx (eVar 1) (eC (.int 0)) [A, B, x] = .ok (.nw (I l.1)) := fun x => ix_t 0 rfl rfl
  have l1 : ∀ x, eIx (eVar 1) (eC (.int 1)) [A, B, x] = .ok (.nw (I l.2.1)) := fun x => ix_t 1 rfl rfl
  have l2 : ∀ x, eIx (eVar 1) (eC (.int 2)) [A, B, x] = .ok (.nw (I l.2.2)) := fun x => ix_t 2 rfl rfl
  have c1 : eCall M_within (aCons (eVar 0) (aCons (eC (.int 0)) (aCons (eC (.int 3)) (aCons (eC (.int 9)) aNil)))) [A, B, .un] = .ok (.nw (.fz (.bl (wB h 0 3 9)))) := call_ok (os := [.fz (t3 h), I 0, I 3, I 9]) rfl (within_ok _ _ _ _)
  have c2 : eCall M_within (aCons (eVar 1) (aCons (eUn gNeg (eC (.int 3))) (aCons (eC (.int 3)) (aCons (eC (.int 9)) aNil)))) [A, B, .un] = .ok (.nw (.fz (.bl (wB l (-3) 3 9)))) := call_ok (os := [.fz (t3 l), I (-3), I 3, I 9]) rfl (within_ok _ _ _ _)
  have tt := t_orT (tNot_ok (tOf_ok c1)) (fun _ => tNot_ok (tOf_ok c2))
  have eD : eTup (aCons (eOp gSub (eIx (eVar 0) (eC (.int 0))) (eIx (eVar 1) (eC (.int 0)))) (aCons (eOp gSub (eIx (eVar 0) (eC (.int 1))) (eIx (eVar 1) (eC (.int 1)))) (aCons (eOp gSub (eIx (eVar 0) (eC (.int 2))) (eIx (eVar 1) (eC (.int 2)))) aNil))) [A, B, .un] = .ok (.nw (.fz (t3 (dif3 h l)))) := e_t3 (e_sub (h0 _) (l0 _)) (e_sub (h1 _) (l1 _)) (e_sub (h2 _) (l2 _))
  have eI : iLst (eLst (aCons (eVar 1) (aCons (eTup (aCons (eOp gSub (eIx (eVar 0) (eC (.int 0))) (eIx (eVar 1) (eC (.int 0)))) (aCons (eOp gSub (eIx (eVar 0) (eC (.int 1))) (eIx (eVar 1) (eC (.int 1)))) (aCons (eOp gSub (eIx (eVar 0) (eC (.int 2))) (eIx (eVar 1) (eC (.int 2)))) aNil)))) aNil))) [A, B, .un] = .ok [.nw (.fz (t3 l)), .nw (.fz (t3 (dif3 h l)))] := by
    have : eLst (aCons (eVar 1) (aCons (eTup (aCons (eOp gSub (eIx (eVar 0) (eC (.int 0))) (eIx (eVar 1) (eC (.int 0)))) (aCons (eOp gSub (eIx (eVar 0) (eC (.int 1))) (eIx (eVar 1) (eC (.int 1)))) (aCons (eOp gSub (eIx (eVar 0) (eC (.int 2))) (eIx (eVar 1) (eC (.int 2)))) aNil)))) aNil)) [A, B, .un] = .ok (.nw (.ls [.fz (t3 l), .fz (t3 (dif3 h l))])) := by
      simp only [eLst, aCons_ev, eD, res_ok, aNil_ev, ra_nw, er_fz]; rfl
    simp only [iLst, this, res_ok]; rfl
  have tb : ∀ f : T3, tAndD (tOf (eOp gEq (eIx (eVar 2) (eC (.int 0))) (eC (.int 0)))) (tOf (eOp gLt (eIx (eVar 2) (eC (.int 1))) (eC (.int 0)))) [A, B, .vl true (.fz (t3 f))] = .ok (decide (f.1 = 0) && decide (f.2.1 < 0)) := fun f => t_andT (t_eq (ix_t 0 (ds := [.int f.1, .int f.2.1, .int f.2.2]) rfl rfl) (eC_ev _)) (fun _ => t_lt (ix_t 1 (ds := [.int f.1, .int f.2.1, .int f.2.2]) rfl rfl) (eC_ev _))
  show runF 3 B_is_choose _ = _
  unfold B_is_choose icB
  generalize hb : (!wB h 0 3 9 || !wB l (-3) 3 9) = q at tt
  cases q with
  | true =>
    rw [show (wB h 0 3 9 && wB l (-3) 3 9) = false by cases h1 : wB h 0 3 9 <;> cases h2 : wB l (-3) 3 9 <;> simp_all]
    exact run_ret (seq_ret (if_t tt (ret_go rfl)))
  | false =>
    rw [show (wB h 0 3 9 && wB l (-3) 3 9) = true by cases h1 : wB h 0 3 9 <;> cases h2 : wB l (-3) 3 9 <;> simp_all]
    refine run_ret (seq_go (if_f tt rfl) ?_)
    have tb1 := tb l
    have tb2 := tb (dif3 h l)
    cases q1 : (decide (l.1 = 0) && decide (l.2.1 < 0)) with
    | true =>
      rw [q1] at tb1
      refine seq_ret (for_go eI ?_)
      exact (forL_ret (r1 := [A, B, .vl true (.fz (t3 l))]) rfl (if_t tb1 (ret_go rfl)))
    | false =>
      rw [q1] at tb1
      cases q2 : (decide ((dif3 h l).1 = 0) && decide ((dif3 h l).2.1 < 0)) with
      | true =>
        rw [q2] at tb2
        refine seq_ret (for_go eI ?_)
        refine Eq.trans (forL_cons (r1 := [A, B, .vl true (.fz (t3 l))]) (r' := [A, B, .vl true (.fz (t3 l))]) rfl (if_f tb1 rfl)) ?_
        exact (forL_ret (r1 := [A, B, .vl true (.fz (t3 (dif3 h l)))]) rfl (if_t tb2 (ret_go rfl)))
      | false =>
        rw [q2] at tb2
        refine seq_go (r' := [A, B, .vl true (.fz (t3 (dif3 h l)))]) (for_go eI ?_) (ret_go rfl)
        refine Eq.trans (forL_cons (r1 := [A, B, .vl true (.fz (t3 l))]) (r' := [A, B, .vl true (.fz (t3 l))]) rfl (if_f tb1 rfl)) ?_
        exact Eq.trans (forL_cons (r1 := [A, B, .vl true (.fz (t3 (dif3 h l)))]) (r' := [A, B, .vl true (.fz (t3 (dif3 h l)))]) rfl (if_f tb2 rfl)) rfl
theorem okCh_ic {h l : T3} (hk : okCh h l) : icB h l = true := by
  obtain ⟨h0, h1, h2⟩ := h
  obtain ⟨l0, l1, l2⟩ := l
  unfold okCh at hk
  dsimp only at hk
  have m1 : ∀ x y : Int, minL x [y] = if y < x then y else x := fun x y => rfl
  have m2 : ∀ x y : Int, maxL x [y] = if x < y then y else x := fun x y => rfl
  simp only [icB, wB, dif3, m1, m2, Bool.and_eq_true, Bool.or_eq_true, Bool.not_eq_true', Bool.or_eq_false_iff, Bool.and_eq_false_iff, decide_eq_true_eq, decide_eq_false_iff_not]
  refine ⟨⟨⟨⟨⟨?_, ?_⟩, ?_⟩, ⟨?_, ?_⟩, ?_⟩, ?_⟩, ?_⟩ <;> (try split) <;> first | omega | (by_cases z : h0 - l0 = 0; exact Or.inr (decide_eq_false (by omega)); exact Or.inl (decide_eq_false z))
def gdPt : Pt → Bool
  | .ch h l => icB h l
  | .wt _ => true
  | .pw f => !decide (f.1 = 0)
  | .gr f => !decide (f.1 = 0)
theorem gd_of {p : Pt} (h : okPt p) : gdPt p = true := by
  cases p with
  | ch a b => exact okCh_ic h
  | wt f => rfl
  | pw f => simp [gdPt, h.1]
  | gr f => simp [gdPt, h.1]
def ptE (p : Pt) : D := er (ptO p)
theorem mkCh (h l : T3) : M_Choose___init__ [.fz (t3 h), .fz (t3 l)] = .ok (ptO (.ch h l)) := mI_of fun a => by
  simp [runI, startI, startE, B_Choose___init__, sFldM, eVar, eIx, ixO, atI, ixN, eTup, tupR, toDs, eLst, allFz, newO, TF_high, TF_lows, rowNs, ptO, dif3, show ¬ PySem.Str.ofString "lows" = PySem.Str.ofString "high" from by decide]
theorem mkWt (f : T3) : M_Weight___init__ [.fz (t3 f)] = .ok (ptO (.wt f)) := mI_of fun a => by
  simp [runI, startI, startE, B_Weight___init__, sFldM, eVar, newO, TF_form, rowNs, ptO]
theorem mkPw (f : Int × Int) : M_Power___init__ [.fz (fD f)] = .ok (ptO (.pw f)) := mI_of fun a => by
  simp [runI, startI, startE, B_Power___init__, sFldM, eVar, newO, TF_fraction, rowNs, ptO]
theorem mkGr (f : Int × Int) : M_Growth___init__ [.fz (fD f)] = .ok (ptO (.gr f)) := mI_of fun a => by
  simp [runI, startI, startE, B_Growth___init__, sFldM, eVar, newO, TF_fraction, rowNs, ptO]
theorem make_ok {F : List O → Res O} {fs : Env → Res (List O)} {r : Env} {os : List O} {o : O} (h : fs r = .ok os) (h2 : F os = .ok o) : eMake F fs r = .ok (.nw o) := by simp [eMake, h, h2]
theorem t_str {f : FE} {r : Env} {x y : PySem.Str} (h : f r = .ok (.nw (.fz (.str x)))) (hx : plainD 0 (.str x) = true) (hy : plainD 0 (.str y) = true) : tOf (eOp gEq f (eC (.str y))) r = .ok (decide (x = y)) := by
  rw [tOf_ev, op_of h (eC_ev _), ra_nw, er_fz, ra_nw, er_fz, gEq_str hx hy]; rfl
theorem made_pt (p : Pt) : M_made_part [.fz (ptD p)] = if gdPt p then .ok (ptO p) else .exc ⟨"NoTerm", []⟩ := by
  have key : ∀ (x : PySem.Str) (ds : List D) (hx : plainD 0 (.str x) = true), (∀ y : PySem.Str, plainD 0 (.str y) = true → tOf (eOp gEq (eVar 1) (eC (.str y))) [.vl false (.fz (.tup (.str x :: ds))), .vl true (.fz (.str x))] = .ok (decide (x = y))) ∧ sSet 1 false (eIx (eVar 0) (eC (.int 0))) [.vl false (.fz (.tup (.str x :: ds))), .un] = .nx [.vl false (.fz (.tup (.str x :: ds))), .vl true (.fz (.str x))] := fun x ds hx =>
    ⟨fun y hy => t_str rfl hx hy, set_go (x := .nw (.fz (.str x))) (ix_t 0 (ds := .str x :: ds) rfl rfl) rfl (by simp)⟩
  have p1 : plainD 0 (.str "choose") = true := by decide +kernel
  have p2 : plainD 0 (.str "weight") = true := by decide +kernel
  have p3 : plainD 0 (.str "power") = true := by decide +kernel
  have p4 : plainD 0 (.str "growth") = true := by decide +kernel
  cases p with
  | ch h l =>
    obtain ⟨k1, k2⟩ := key "choose" [t3 h, t3 l] p1
    let R : Env := [.vl false (.fz (ptD (.ch h l))), .vl true (.fz (.str "choose"))]
    have a1 : eIx (eVar 0) (eC (.int 1)) R = .ok (.nw (.fz (t3 h))) := ix_t 1 (ds := [.str "choose", t3 h, t3 l]) rfl rfl
    have a2 : eIx (eVar 0) (eC (.int 2)) R = .ok (.nw (.fz (t3 l))) := ix_t 2 (ds := [.str "choose", t3 h, t3 l]) rfl rfl
    have tc := t_andT (k1 "choose" p1) (fun _ => tOf_ok (call2 (r := R) a1 a2 (choose_ok h l)))
    show runF 2 B_made_part _ = _
    unfold B_made_part
    cases hg : icB h l with
    | true =>
      rw [hg] at tc
      rw [show gdPt (.ch h l) = true from hg]
      refine run_ret (seq_go k2 (seq_ret (if_t tc (ret_go (make_ok (os := [.fz (t3 h), .fz (t3 l)]) ?_ (mkCh h l))))))
      simp only [aCons_ev, a1, a2, res_ok, aNil_ev, ra_nw, er_fz, R]
      show (eIx (eVar 0) (eC (.int 1)) R).bind _ = _
      rw [a1, res_ok]
      show ((eIx (eVar 0) (eC (.int 2)) R).bind _).bind _ = _
      rw [a2]; rfl
    | false =>
      rw [hg] at tc
      rw [show gdPt (.ch h l) = false from hg]
      exact run_exc (seq_go k2 (seq_go (if_f tc rfl) (seq_go (if_f (k1 _ p2) rfl) (seq_go (if_f (by rw [tAnd_ev, k1 _ p3]; rfl) rfl) (seq_go (if_f (by rw [tAnd_ev, k1 _ p4]; rfl) rfl) rfl)))))
  | wt f =>
    obtain ⟨k1, k2⟩ := key "weight" [t3 f] p2
    let R : Env := [.vl false (.fz (ptD (.wt f))), .vl true (.fz (.str "weight"))]
    have a1 : eIx (eVar 0) (eC (.int 1)) R = .ok (.nw (.fz (t3 f))) := ix_t 1 (ds := [.str "weight", t3 f]) rfl rfl
    show runF 2 B_made_part _ = _
    unfold B_made_part
    refine run_ret (seq_go k2 (seq_go (if_f (by rw [tAnd_ev, k1 _ p1]; rfl) rfl) (seq_ret (if_t (k1 _ p2) (ret_go (make_ok (os := [.fz (t3 f)]) ?_ (mkWt f)))))))
    show (eIx (eVar 0) (eC (.int 1)) R).bind _ = _
    rw [a1]; rfl
  | pw f =>
    obtain ⟨k1, k2⟩ := key "power" [fD f] p3
    let R : Env := [.vl false (.fz (ptD (.pw f))), .vl true (.fz (.str "power"))]
    have a1 : eIx (eVar 0) (eC (.int 1)) R = .ok (.nw (.fz (fD f))) := ix_t 1 (ds := [.str "power", fD f]) rfl rfl
    have a0 : eIx (eIx (eVar 0) (eC (.int 1))) (eC (.int 0)) R = .ok (.nw (I f.1)) := ix_t 0 (ds := [.int f.1, .int f.2]) a1 rfl
    have tc := t_andT (k1 "power" p3) (fun _ => t_ne (r := R) a0 (eC_ev (.int 0)))
    show runF 2 B_made_part _ = _
    unfold B_made_part
    by_cases hz : f.1 = 0
    · rw [decide_eq_true hz] at tc
      rw [show gdPt (.pw f) = false by simp [gdPt, hz]]
      exact run_exc (seq_go k2 (seq_go (if_f (by rw [tAnd_ev, k1 _ p1]; rfl) rfl) (seq_go (if_f (k1 _ p2) rfl) (seq_go (if_f tc rfl) (seq_go (if_f (by rw [tAnd_ev, k1 _ p4]; rfl) rfl) rfl)))))
    · rw [decide_eq_false hz] at tc
      rw [show gdPt (.pw f) = true by simp [gdPt, hz]]
      refine run_ret (seq_go k2 (seq_go (if_f (by rw [tAnd_ev, k1 _ p1]; rfl) rfl) (seq_go (if_f (k1 _ p2) rfl) (seq_ret (if_t tc (ret_go (make_ok (os := [.fz (fD f)]) ?_ (mkPw f))))))))
      show (eIx (eVar 0) (eC (.int 1)) R).bind _ = _
      rw [a1]; rfl
  | gr f =>
    obtain ⟨k1, k2⟩ := key "growth" [fD f] p4
    let R : Env := [.vl false (.fz (ptD (.gr f))), .vl true (.fz (.str "growth"))]
    have a1 : eIx (eVar 0) (eC (.int 1)) R = .ok (.nw (.fz (fD f))) := ix_t 1 (ds := [.str "growth", fD f]) rfl rfl
    have a0 : eIx (eIx (eVar 0) (eC (.int 1))) (eC (.int 0)) R = .ok (.nw (I f.1)) := ix_t 0 (ds := [.int f.1, .int f.2]) a1 rfl
    have tc := t_andT (k1 "growth" p4) (fun _ => t_ne (r := R) a0 (eC_ev (.int 0)))
    show runF 2 B_made_part _ = _
    unfold B_made_part
    by_cases hz : f.1 = 0
    · rw [decide_eq_true hz] at tc
      rw [show gdPt (.gr f) = false by simp [gdPt, hz]]
      exact run_exc (seq_go k2 (seq_go (if_f (by rw [tAnd_ev, k1 _ p1]; rfl) rfl) (seq_go (if_f (k1 _ p2) rfl) (seq_go (if_f (by rw [tAnd_ev, k1 _ p3]; rfl) rfl) (seq_go (if_f tc rfl) rfl)))))
    · rw [decide_eq_false hz] at tc
      rw [show gdPt (.gr f) = true by simp [gdPt, hz]]
      refine run_ret (seq_go k2 (seq_go (if_f (by rw [tAnd_ev, k1 _ p1]; rfl) rfl) (seq_go (if_f (k1 _ p2) rfl) (seq_go (if_f (by rw [tAnd_ev, k1 _ p3]; rfl) rfl) (seq_ret (if_t tc (ret_go (make_ok (os := [.fz (fD f)]) ?_ (mkGr f)))))))))
      show (eIx (eVar 0) (eC (.int 1)) R).bind _ = _
      rw [a1]; rfl
def IsP (o : O) (ps : List Pt) : Prop := o = .ls (oPt ps) ∨ o = .fz (LPt ps)
theorem plain_s (n : Nat) (x : PySem.Str) (h : PySem.PyData.canLay0 (.str x) = true) : plainD n (.str x) = true := by
  cases n <;> simpa [plainD] using h
theorem plain_pt (n : Nat) (p : Pt) : plainD (n + 2) (ptD p) = true := by
  have p1 := plain_s (n + 1) "choose" (by decide +kernel)
  have p2 := plain_s (n + 1) "weight" (by decide +kernel)
  have p3 := plain_s (n + 1) "power" (by decide +kernel)
  have p4 := plain_s (n + 1) "growth" (by decide +kernel)
  have t : ∀ f : T3, plainD (n + 1) (t3 f) = true := fun f => by simp [plainD]
  have u : ∀ f : Int × Int, plainD (n + 1) (fD f) = true := fun f => by simp [plainD]
  cases p with
  | ch h l => exact plain_tup (by simp [p1, t])
  | wt f => exact plain_tup (by simp [p2, t])
  | pw f => exact plain_tup (by simp [p3, u])
  | gr f => exact plain_tup (by simp [p4, u])
theorem plain_LPt (n : Nat) (ps : List Pt) : plainD (n + 3) (LPt ps) = true := by
  show (ps.map ptD).all (plainD (n + 2)) = true
  exact List.all_eq_true.mpr fun d hd => by
    obtain ⟨p, _, rfl⟩ := List.mem_map.mp hd
    exact plain_pt n p
theorem gEq_nilL {o : O} {d : D} {ds : List D} (h : er o = .lst (d :: ds)) (hp : plainD 20 (.lst (d :: ds)) = true) : gEq o (.fz (.lst [])) = .ok (.nw (.fz (.bl false))) := by
  obtain ⟨p, e1, e2, e3⟩ := plain_py 20 _ hp
  have hs : PySem.SeqAt.shaped p = true := by
    unfold PySem.SeqAt.shaped
    rw [e2, decide_eq_true (by omega)]; rfl
  have hs0 : PySem.SeqAt.shaped (.list []) = true := by decide +kernel
  rcases int_cases o (.fz (.lst [])) with ⟨i, j, rfl, _⟩ | ⟨e, _⟩
  · cases h
  · rw [e]
    have e1' : (pys (d :: ds)).map PySem.PyData.list = some p := e1
    cases hq : pys (d :: ds) with
    | none => rw [hq] at e1'; cases e1'
    | some qs =>
      rw [hq] at e1'
      cases e1'
      have hne : qs ≠ [] := by
        intro z; subst z
        simp only [pys] at hq
        cases h1 : py d with
        | none => rw [h1] at hq; cases hq
        | some x =>
          rw [h1] at hq
          cases h2 : pys ds with
          | none => rw [h2] at hq; cases hq
          | some y => rw [h2] at hq; cases hq
      obtain ⟨x, xs, rfl⟩ := List.exists_cons_of_ne_nil hne
      have e0 : py (.lst []) = some (.list []) := rfl
      simp only [gEqD, h, er_fz, eqD, e1, e0, hs, hs0, Bool.and_self, if_true]
      rw [show (PySem.PyData.list (x :: xs)).eqv (.list []) = false from by rw [PySem.PyData.eqv]; simp [PySem.PyData.eqvAll]]
      rfl
theorem IsP.er {o : O} {ps : List Pt} (h : IsP o ps) : er o = LPt ps := by
  rcases h with rfl | rfl
  · exact er_oPt ps
  · rfl
theorem IsP.items {o : O} {ps : List Pt} (h : IsP o ps) : items o = some (oPt ps) := by
  rcases h with rfl | rfl
  · rfl
  · simp [oPt]
theorem IsP.its {o : O} {ps : List Pt} (h : IsP o ps) : itsL (see false o) = .ok (ps.map fun p => .nw (.fz (ptD p))) := by
  rcases h with rfl | rfl
  · simp [itsL, oPt]
  · simp [itsL, oPt]
theorem len_P {f : FE} {r : Env} {w : Bool} {o : O} {ps : List Pt} (hf : f r = .ok (see w o)) (h : IsP o ps) : eB gLen (aCons f aNil) r = .ok (.nw (I ps.length)) := by
  rw [b1 hf, see_a]
  have e : lenO o = some ps.length := by
    rcases h with rfl | rfl
    · show (DL.items (.ls (oPt ps))).map List.length = _
      simp
    · show (DL.items (.fz (LPt ps))).map List.length = _
      simp
  simp only [gLen, e]; rfl
def tmO (ps : List Pt) : O := .ob "Term" ["made", "words"] [.ls (ps.map ptO), .ls (oPt ps)]
def tmE (ps : List Pt) : D := .obj "Term" ["made", "words"] [.lst (ps.map ptE), LPt ps]
theorem er_tm (ps : List Pt) : er (tmO ps) = tmE ps := by
  show D.obj _ _ (ers [.ls (ps.map ptO), .ls (oPt ps)]) = _
  rw [ers_eq, List.map_cons, List.map_cons, List.map_nil, er_oPt, er_ls, ers_eq, List.map_map]; rfl
theorem list_P {f : FE} {r : Env} {w : Bool} {o : O} {ps : List Pt} (hf : f r = .ok (see w o)) (h : IsP o ps) : eB gList (aCons f aNil) r = .ok (.nw (.ls (oPt ps))) := by
  rw [b1 hf, see_a]
  simp only [gList, h.items]
  rw [if_pos (allFz_oPt ps)]
theorem told_ok (ps : List Pt) : M_Term_told [.fz (tmE ps)] = .ok (.ls (oPt ps)) := by
  have e : eFld TF_words "words" (eVar 0) [.vl false (.fz (tmE ps))] = .ok (.nw (.fz (LPt ps))) := by
    show (Res.ok (see false (.fz (tmE ps)))).bind (fldR TF_words "words") = _
    rw [res_ok, see_fz]
    simp [fldR, tmE, TF_words, show (PySem.Str.ofString "words" == PySem.Str.ofString "made") = false from by decide, List.lookup]
  show runF 1 B_Term_told _ = _
  unfold B_Term_told
  exact run_ret (ret_go (list_P (w := false) (o := .fz (LPt ps)) e (.inr rfl)))
theorem term_made {o : O} {ps : List Pt} (h : IsP o ps) (h1 : 1 ≤ ps.length) (h6 : ps.length ≤ 6) (hg : ∀ p ∈ ps, gdPt p = true) : M_Term___init__ [o] = .ok (tmO ps) := mI_of fun a => by
  have v1 : ∀ (x y : S), eVar 1 [x, .vl false o, y] = .ok (see false o) := fun x y => rfl
  have tl : ∀ x y, tOf (eOp gGt (eB gLen (aCons (eVar 1) aNil)) (eC (.int 6))) [x, .vl false o, y] = .ok false := fun x y => by
    rw [t_gt (len_P (v1 x y) h) (eC_ev _), decide_eq_false (by omega)]
  have te : ∀ x y, tOf (eOp gEq (eVar 1) (eLst aNil)) [x, .vl false o, y] = .ok false := fun x y => by
    obtain ⟨p, ps', rfl⟩ := List.exists_cons_of_length_pos (show 0 < ps.length by omega)
    rw [tOf_ev, op_of (v1 x y) (y := .nw (.ls [])) rfl, see_a]
    show (gEq o (.fz (.lst []))).bind toB = _
    rw [gEq_nilL (d := ptD p) (ds := ps'.map ptD) h.er (plain_LPt 17 (p :: ps'))]; rfl
  have lc : ∀ x, eLcD (iLst (eVar 1)) (gN 2) [2] tYesD (eCall M_made_part (aCons (eVar 2) aNil)) [x, .vl false o, .un] = .ok (.nw (.ls (ps.map ptO))) := fun x => by
    refine lcD_map (g := fun p => .nw (.fz (ptD p))) ?_ (by simp) (fun p hp => ⟨[x, .vl false o, .vl true (.fz (ptD p))], by simp [wipeE], call1 (x := .nw (.fz (ptD p))) rfl ?_⟩) (by omega)
    · rw [iLst, v1, res_ok, h.its]
    · rw [ra_nw, er_fz, made_pt, hg p hp]; rfl
  show runI 3 "Term" B_Term___init__ a [o] = _
  unfold runI B_Term___init__
  have e : sSeq (sIf (tOrD (tOf (eOp gEq (eVar 1) (eLst aNil))) (tOf (eOp gGt (eB gLen (aCons (eVar 1) aNil)) (eC (.int 6))))) (sRaise "NoTerm") sNil) (sSeq (sFldM TF_made 0 "made" (eLcD (iLst (eVar 1)) (gN 2) [2] tYesD (eCall M_made_part (aCons (eVar 2) aNil)))) (sFldM TF_words 0 "words" (eB gList (aCons (eVar 1) aNil)))) (startI 3 "Term" a [o]) = .nx [.me a (tmO ps), .vl false o, .un] := by
    show sSeq _ _ [.me a (.ob "Term" [] []), .vl false o, .un] = _
    refine seq_go (r' := [.me a (.ob "Term" [] []), .vl false o, .un]) (if_f (by rw [tOr_ev, te, res_ok]; exact tl _ _) rfl) (seq_go (r' := [.me a (.ob "Term" ["made"] [.ls (ps.map ptO)]), .vl false o, .un]) ?_ ?_)
    · simp only [sFldM, sUse_ev, lc, newO]
      simp [TF_made, rowNs]
    · simp only [sFldM, sUse_ev, list_P (v1 _ _) h, newO]
      simp [TF_words, rowNs, tmO, show ¬ PySem.Str.ofString "words" = PySem.Str.ofString "made" from by decide]
  rw [e]
  simp
abbrev PK := Int × Int
abbrev PP := List (PK × Int)
def kk (k : PK) : List L2.Key := [.inl k.1, .inl k.2]
theorem kk_inj {a b : PK} (h : kk a = kk b) : a = b := by
  obtain ⟨x, y⟩ := a
  obtain ⟨z, w⟩ := b
  simp [kk] at h
  rw [h.1, h.2]
abbrev pks (p : PP) : List (List L2.Key) := p.map fun x => kk x.1
abbrev pvs (p : PP) : List D := p.map fun x => .int x.2
abbrev pO (p : PP) : O := .dt (pks p) (pvs p)
abbrev pD (p : PP) : D := .dct (pks p) (pvs p)
def IsQ (o : O) (p : PP) : Prop := o = pO p ∨ o = .fz (pD p)
theorem IsQ.d {o : O} {p : PP} (h : IsQ o p) : dctO o = some (pks p, pvs p) := by rcases h with rfl | rfl <;> rfl
def gt : PP → PK → Option Int
  | [], _ => none
  | x :: p, k => if x.1 = k then some x.2 else gt p k
def gv (p : PP) (k : PK) : Int := (gt p k).getD 0
def stp : PP → PK → Int → PP
  | [], k, v => [(k, v)]
  | x :: p, k, v => if x.1 = k then (k, v) :: p else x :: stp p k v
theorem valP_gt : ∀ (p : PP) (k : PK), valP (pks p) (pvs p) (kk k) = (gt p k).map D.int
  | [], k => rfl
  | x :: p, k => by
    show (if kk x.1 = kk k then some (D.int x.2) else valP (pks p) (pvs p) (kk k)) = _
    unfold gt
    by_cases h : x.1 = k
    · rw [if_pos (by rw [h]), if_pos h]; rfl
    · rw [if_neg (fun z => h (kk_inj z)), if_neg h]; exact valP_gt p k
theorem putP_put : ∀ (p : PP) (k : PK) (v : Int), putP (pks p) (pvs p) (kk k) (.int v) = (pks (stp p k v), pvs (stp p k v))
  | [], k, v => rfl
  | x :: p, k, v => by
    show (if kk x.1 = kk k then _ else _) = _
    unfold stp
    by_cases h : x.1 = k
    · rw [if_pos (by rw [h]), if_pos h]
      simp [h]
    · rw [if_neg (fun z => h (kk_inj z)), if_neg h, putP_put p k v]; rfl
def keysP (p : PP) : List PK := p.map (·.1)
theorem gt_none {p : PP} {k : PK} : gt p k = none ↔ k ∉ keysP p := by
  induction p with
  | nil => simp [gt, keysP]
  | cons x p ih =>
    unfold gt
    by_cases h : x.1 = k
    · rw [if_pos h]; simp [keysP, h]
    · rw [if_neg h, ih]
      have h' : ¬ k = x.1 := fun z => h z.symm
      simp [keysP, h']
theorem gt_mem {p : PP} {k : PK} {v : Int} (n : (keysP p).Nodup) : gt p k = some v ↔ (k, v) ∈ p := by
  induction p with
  | nil => simp [gt]
  | cons x p ih =>
    have n' := List.nodup_cons.mp n
    unfold gt
    by_cases h : x.1 = k
    · rw [if_pos h]
      constructor
      · intro e
        have : x.2 = v := Option.some.inj e
        exact List.mem_cons.mpr (.inl (by rw [← h, ← this]))
      · intro m
        rcases List.mem_cons.mp m with e | m
        · rw [← e]
        · exact absurd (List.mem_map.mpr ⟨(k, v), m, rfl⟩) (by rw [← h]; exact n'.1)
    · rw [if_neg h, ih n'.2]
      constructor
      · exact List.mem_cons_of_mem _
      · intro m
        rcases List.mem_cons.mp m with e | m
        · exact absurd (by rw [← e]) h
        · exact m
theorem keys_put (p : PP) (k : PK) (v : Int) : keysP (stp p k v) = if k ∈ keysP p then keysP p else keysP p ++ [k] := by
  induction p with
  | nil => simp [stp, keysP]
  | cons x p ih =>
    unfold stp
    by_cases h : x.1 = k
    · rw [if_pos h, if_pos (by simp [keysP, h])]
      simp [keysP, h]
    · rw [if_neg h]
      show x.1 :: keysP (stp p k v) = _
      rw [ih]
      by_cases h2 : k ∈ keysP p
      · rw [if_pos h2, if_pos (by simp [keysP]; right; simpa [keysP] using h2)]; rfl
      · have h' : ¬ k = x.1 := fun z => h z.symm
        rw [if_neg h2, if_neg (by simp [keysP, h']; simpa [keysP] using h2)]; rfl
theorem nodup_put {p : PP} (n : (keysP p).Nodup) (k : PK) (v : Int) : (keysP (stp p k v)).Nodup := by
  rw [keys_put]
  split
  · exact n
  · rename_i h
    exact List.nodup_append.mpr ⟨n, by simp, fun a ha b hb => by
      have : b = k := by simpa using hb
      rw [this]; exact fun z => h (z ▸ ha)⟩
theorem gt_put (p : PP) (k : PK) (v : Int) (j : PK) : gt (stp p k v) j = if j = k then some v else gt p j := by
  induction p with
  | nil =>
    show (if k = j then some v else none) = _
    by_cases h : j = k
    · rw [if_pos h, if_pos h.symm]
    · rw [if_neg h, if_neg (fun z => h z.symm)]; rfl
  | cons x p ih =>
    unfold stp
    by_cases h : x.1 = k
    · rw [if_pos h]
      show (if k = j then some v else gt p j) = if j = k then some v else (if x.1 = j then some x.2 else gt p j)
      by_cases h2 : j = k
      · rw [if_pos h2, if_pos h2.symm]
      · rw [if_neg h2, if_neg (fun z => h2 z.symm), if_neg (fun z => h2 (by rw [← z, h]))]
    · rw [if_neg h]
      show (if x.1 = j then some x.2 else gt (stp p k v) j) = if j = k then some v else (if x.1 = j then some x.2 else gt p j)
      rw [ih]
      by_cases h2 : x.1 = j
      · rw [if_pos h2, if_pos h2, if_neg (fun z => h (by rw [h2, z]))]
      · rw [if_neg h2, if_neg h2]
theorem gv_put (p : PP) (k : PK) (v : Int) (j : PK) : gv (stp p k v) j = if j = k then v else gv p j := by
  unfold gv
  rw [gt_put]
  split <;> rfl
theorem put_new {p : PP} {k : PK} (h : k ∉ keysP p) (v : Int) : stp p k v = p ++ [(k, v)] := by
  induction p with
  | nil => rfl
  | cons x p ih =>
    unfold stp
    have h1 : ¬ x.1 = k := fun z => h (by simp [keysP, z])
    rw [if_neg h1, ih (fun z => h (by simp [keysP] at z ⊢; right; exact z))]; rfl
def nzP (p : PP) : PP := p.filter fun x => decide (x.2 ≠ 0)
theorem nzP_nodup {p : PP} (n : (keysP p).Nodup) : (keysP (nzP p)).Nodup := n.sublist (List.Sublist.map _ List.filter_sublist)
theorem gv_nz {p : PP} (n : (keysP p).Nodup) (k : PK) : gv (nzP p) k = gv p k := by
  unfold gv
  cases h : gt p k with
  | none =>
    have : gt (nzP p) k = none := gt_none.mpr fun z => gt_none.mp h ((List.Sublist.map _ List.filter_sublist).subset z)
    rw [this]
  | some v =>
    have hm := (gt_mem n).mp h
    by_cases h0 : v = 0
    · have : gt (nzP p) k = none := gt_none.mpr fun z => by
        obtain ⟨x, hx, e⟩ := List.mem_map.mp z
        obtain ⟨hx1, hx2⟩ := List.mem_filter.mp hx
        have : gt p k = some x.2 := (gt_mem n).mpr (by rw [← e]; exact hx1)
        rw [h] at this
        have := Option.some.inj this
        rw [← this, h0] at hx2
        simp at hx2
      rw [this, h0]; rfl
    · rw [(gt_mem (nzP_nodup n)).mpr (List.mem_filter.mpr ⟨hm, by simpa using h0⟩)]
def sk (xs : PP) (k : PK) : Int := (xs.map fun x => if x.1 = k then x.2 else 0).sum
theorem sk_append (xs ys : PP) (k : PK) : sk (xs ++ ys) k = sk xs k + sk ys k := by
  unfold sk
  rw [List.map_append, List.sum_append]
def addP (p : PP) (x : PK × Int) : PP := stp p x.1 (gv p x.1 + x.2)
theorem fold_nodup : ∀ (xs : PP) {p : PP}, (keysP p).Nodup → (keysP (xs.foldl addP p)).Nodup
  | [], _, n => n
  | x :: xs, p, n => fold_nodup xs (nodup_put n _ _)
theorem fold_gv : ∀ (xs : PP) (p : PP) (k : PK), gv (xs.foldl addP p) k = gv p k + sk xs k
  | [], p, k => by show gv p k = gv p k + 0; omega
  | x :: xs, p, k => by
    rw [List.foldl_cons, fold_gv xs (addP p x) k]
    unfold addP
    rw [gv_put]
    unfold sk
    rw [List.map_cons, List.sum_cons]
    by_cases h : k = x.1
    · rw [if_pos h, if_pos h.symm, h]; omega
    · rw [if_neg h, if_neg (fun z => h z.symm)]; omega
theorem pk_len_le : ∀ {xs ys : List PK}, xs.Nodup → (∀ k ∈ xs, k ∈ ys) → xs.length ≤ ys.length
  | [], ys, _, _ => by simp
  | x :: xs, ys, n, h => by
    have n' := List.nodup_cons.mp n
    have hx := h x List.mem_cons_self
    have := pk_len_le (ys := ys.erase x) n'.2 fun k hk => by
      have hne : k ≠ x := fun z => n'.1 (z ▸ hk)
      exact (List.mem_erase_of_ne hne).mpr (h k (List.mem_cons_of_mem _ hk))
    rw [List.length_erase_of_mem hx] at this
    have := List.length_pos_of_mem hx
    rw [List.length_cons]; omega
structure Cl (p : PP) : Prop where
  n : (keysP p).Nodup
  z : ∀ x ∈ p, x.2 ≠ 0
theorem Cl.nzP {p : PP} (n : (keysP p).Nodup) : Cl (nzP p) := ⟨nzP_nodup n, fun x hx => by
  have := (List.mem_filter.mp hx).2
  simpa using this⟩
theorem Cl.key {p : PP} (h : Cl p) (k : PK) : k ∈ keysP p ↔ gv p k ≠ 0 := by
  constructor
  · intro hk
    obtain ⟨x, hx, e⟩ := List.mem_map.mp hk
    have : gt p k = some x.2 := (gt_mem h.n).mpr (by rw [← e]; exact hx)
    unfold gv
    rw [this]
    exact h.z x hx
  · intro hv
    refine Classical.byContradiction fun hk => hv ?_
    unfold gv
    rw [gt_none.mpr hk]; rfl
theorem Cl.same {p q : PP} (hp : Cl p) (hq : Cl q) (h : ∀ k, gv p k = gv q k) : p.length = q.length ∧ ∀ x ∈ p, gt q x.1 = some x.2 := by
  have l1 : (keysP p).length = p.length := List.length_map _
  have l2 : (keysP q).length = q.length := List.length_map _
  have a := pk_len_le hp.n (ys := keysP q) fun k hk => (hq.key k).mpr (by rw [← h]; exact (hp.key k).mp hk)
  have b := pk_len_le hq.n (ys := keysP p) fun k hk => (hp.key k).mpr (by rw [h]; exact (hq.key k).mp hk)
  refine ⟨by omega, fun x hx => ?_⟩
  have g1 : gt p x.1 = some x.2 := (gt_mem hp.n).mpr hx
  have hk : x.1 ∈ keysP q := (hq.key x.1).mpr (by rw [← h]; unfold gv; rw [g1]; exact hp.z x hx)
  have hv := h x.1
  unfold gv at hv
  rw [g1] at hv
  cases g2 : gt q x.1 with
  | none => exact absurd hk (gt_none.mp g2)
  | some w => rw [g2] at hv; exact congrArg some hv.symm
def ent (P : PP) : List (List L2.Key × D) := P.map fun x => (kk x.1, D.int x.2)
theorem zip_ent (P : PP) : (pks P).zip (pvs P) = ent P := by
  unfold ent
  rw [List.zip_map']
theorem IsQ.dI {o : O} {P : PP} (h : IsQ o P) : DL.dI false o = some (ent P) := by
  rcases h with rfl | rfl
  · show (if false = false ∧ (pks P).length = (pvs P).length then some ((pks P).zip (pvs P)) else none) = _
    rw [if_pos ⟨rfl, by simp⟩, zip_ent]
  · show (if (pks P).length = (pvs P).length then some ((pks P).zip (pvs P)) else none) = _
    rw [if_pos (by simp), zip_ent]
theorem dI_fz (P : PP) : DL.dI true (.fz (pD P)) = some (ent P) := by
  show (if (pks P).length = (pvs P).length then some ((pks P).zip (pvs P)) else none) = _
  rw [if_pos (by simp), zip_ent]
theorem forD_pp {m n : Nat} {F : FS} {P : PP} (I : PP → Env → Prop) (h : ∀ d x e r, d ++ x :: e = P → I d r → m < r.length ∧ n < r.length ∧ ∃ r', F ((r.set m (.tq (kk x.1))).set n (VI x.2)) = .nx r' ∧ I (d ++ [x]) r') :
    ∀ (rest done : PP) (r : Env), done ++ rest = P → I done r → ∃ r', forD m n F (ent rest) r = .nx r' ∧ I P r'
  | [], done, r, e, hi => ⟨r, rfl, by rw [List.append_nil] at e; rw [← e]; exact hi⟩
  | x :: rest, done, r, e, hi => by
    obtain ⟨h1, h2, r', h3, h4⟩ := h done x rest r e hi
    obtain ⟨r2, h5, h6⟩ := forD_pp I h rest (done ++ [x]) r' (by simpa using e) h4
    refine ⟨r2, ?_, h6⟩
    show (if m < r.length ∧ n < r.length then _ else _) = _
    rw [if_pos ⟨h1, h2⟩]
    show (match F ((r.set m (.tq (kk x.1))).set n (VI x.2)) with | .nx r' => _ | .ct r' => _ | .bk r' => _ | .ret o => _ | _ => _) = _
    rw [h3]
    exact h5
theorem fordi_go {i m n : Nat} {F : FS} {P : PP} {r : Env} {w : Bool} {o : O} (hr : r[i]? = some (.vl w o)) (hd : DL.dI w o = some (ent P)) (I : PP → Env → Prop) (h0 : I [] r) (h : ∀ d x e r, d ++ x :: e = P → I d r → m < r.length ∧ n < r.length ∧ ∃ r', F ((r.set m (.tq (kk x.1))).set n (VI x.2)) = .nx r' ∧ I (d ++ [x]) r') : ∃ r', sForDI i m n F r = .nx r' ∧ I P r' := by
  obtain ⟨r', h1, h2⟩ := forD_pp I h P [] r rfl h0
  refine ⟨r', ?_, h2⟩
  unfold sForDI
  rw [hr]
  show (match DL.dI w o with | some ps => forD m n F ps r | none => .bad) = _
  rw [hd]; exact h1
theorem pks_nodup {p : PP} (n : (keysP p).Nodup) : (pks p).Nodup := by
  have e : pks p = (keysP p).map kk := by unfold keysP; rw [List.map_map]; rfl
  rw [e, List.Nodup, List.pairwise_map]
  exact List.Pairwise.imp (fun h z => h (kk_inj z)) n
theorem dput_go {i : Nat} {f g : FE} {r : Env} {p : PP} {k : PK} {v : Int} {x y : R} (h1 : f r = .ok x) (hx : x.a = .fz (.int v)) (hp : r[i]? = some (.vl true (pO p))) (h2 : g r = .ok y) (hy : keyO y.a = some (kk k)) (hn : (keysP p).Nodup) (hl : p.length < 100000) : sDPutL i f g r = .nx (r.set i (.vl true (pO (stp p k v)))) := by
  unfold sDPutL sUse
  simp only [h1, hx, hp, h2, hy]
  rw [if_pos ⟨pks_nodup hn, by simp, by simpa using hl⟩, putP_put]
theorem dget_go {i : Nat} {g : FE} {r : Env} {p : PP} {k : PK} {w : Bool} {o : O} {y : R} (hp : r[i]? = some (.vl w o)) (ho : dctO o = some (pks p, pvs p)) (h2 : g r = .ok y) (hy : keyO y.a = some (kk k)) : eDGet2 i g 0 r = .ok (.nw (I (gv p k))) := by
  unfold eDGet2
  simp only [hp, ho, h2, res_ok, hy, valP_gt]
  unfold gv
  cases gt p k <;> rfl
theorem key_tq (k : PK) : keyO (kO (kk k)) = some (kk k) := rfl
theorem e_tq {i : Nat} {r : Env} {k : List L2.Key} (h : r[i]? = some (.tq k)) : eVar i r = .ok (.vw (kO k)) := by
  unfold eVar; rw [h]
def nB : FS := (sSeq (sSet 1 true eDNew) (sSeq (sForDI 0 2 3 (sIf (tOf (eOp gNe (eVar 3) (eC (.int 0)))) (sDPutL 1 (eVar 3) (eVar 2)) sNil)) (sRetV 1)))
theorem nB_ok {o : O} {P : PP} (h : IsQ o P) (hn : (keysP P).Nodup) (hl : P.length < 100000) : runF 4 nB [o] = .ok (pO (nzP P)) := by
  let E (f : PP) (a b : S) : Env := [.vl false o, .vl true (pO f), a, b]
  obtain ⟨r', hf, a, b, er⟩ := fordi_go (i := 0) (m := 2) (n := 3) (F := sIf (tOf (eOp gNe (eVar 3) (eC (.int 0)))) (sDPutL 1 (eVar 3) (eVar 2)) sNil) (P := P) (r := E [] U U) (w := false) (o := o) rfl h.dI (fun d r => ∃ a b, r = E (nzP d) a b) ⟨U, U, rfl⟩ (fun d x e r hp ⟨a, b, er⟩ => by
    subst er
    let R : Env := E (nzP d) (.tq (kk x.1)) (VI x.2)
    refine ⟨by simp [E], by simp [E], ?_⟩
    have tn : tOf (eOp gNe (eVar 3) (eC (.int 0))) R = .ok (!decide (x.2 = 0)) := t_ne (a := x.2) rfl (eC_ev _)
    by_cases h0 : x.2 = 0
    · refine ⟨R, if_f (tn.trans (by rw [decide_eq_true h0]; rfl)) rfl, .tq (kk x.1), VI x.2, ?_⟩
      have : nzP (d ++ [x]) = nzP d := by unfold nzP; rw [List.filter_append]; simp [h0]
      rw [this]
    · have hk : x.1 ∉ keysP d := fun z => by
        have : (keysP P) = keysP d ++ (x.1 :: keysP e) := by rw [← hp]; simp [keysP]
        rw [this] at hn
        exact (List.nodup_append.mp hn).2.2 _ z _ List.mem_cons_self rfl
      have hnd : (keysP (nzP d)).Nodup := nzP_nodup (by
        have : (keysP P) = keysP d ++ (x.1 :: keysP e) := by rw [← hp]; simp [keysP]
        rw [this] at hn
        exact (List.nodup_append.mp hn).1)
      have hk2 : x.1 ∉ keysP (nzP d) := fun z => hk ((List.Sublist.map _ List.filter_sublist).subset z)
      have hlen : (nzP d).length < 100000 := by
        have h1 : (nzP d).length ≤ d.length := List.length_filter_le _ _
        have h2 : d.length ≤ P.length := by rw [← hp]; simp
        omega
      refine ⟨_, if_t (tn.trans (by rw [decide_eq_false h0]; rfl)) (dput_go (i := 1) (p := nzP d) (k := x.1) (v := x.2) (x := .nw (I x.2)) rfl rfl rfl (e_tq (k := kk x.1) rfl) (key_tq _) hnd hlen), .tq (kk x.1), VI x.2, ?_⟩
      have : nzP (d ++ [x]) = stp (nzP d) x.1 x.2 := by
        rw [put_new hk2]
        unfold nzP
        rw [List.filter_append]
        simp [h0]
      rw [this]; rfl)
  subst er
  exact run_ret (seq_go (r' := E [] U U) (set_go (x := .nw (pO [])) rfl rfl (by simp [startE])) (seq_go hf rfl))
theorem drop_ok {o : O} {P : PP} (h : IsQ o P) (hn : (keysP P).Nodup) (hl : P.length < 100000) : M_without_noughts [o] = .ok (pO (nzP P)) := nB_ok h hn hl
theorem n0P : (keysP ([] : PP)).Nodup := List.nodup_nil
def mulT (l r : PK × Int) : PK × Int := ((l.1.1 + r.1.1, l.1.2 + r.1.2), l.2 * r.2)
def mulL (P Q : PP) : PP := P.flatMap fun l => Q.map (mulT l)
theorem mulL_snoc (P Q : PP) (x : PK × Int) : mulL (P ++ [x]) Q = mulL P Q ++ Q.map (mulT x) := by simp [mulL]
theorem mulL_len (P Q : PP) : (mulL P Q).length = P.length * Q.length := by
  induction P with
  | nil => simp [mulL]
  | cons x P ih =>
    show (Q.map (mulT x) ++ mulL P Q).length = _
    rw [List.length_append, List.length_map, ih, List.length_cons, Nat.add_mul, Nat.one_mul]; omega
def tB : FS := (sSeq (sSet 7 false (eTup (aCons (eOp gAddA (eIx (eVar 3) (eC (.int 0))) (eIx (eVar 5) (eC (.int 0)))) (aCons (eOp gAddA (eIx (eVar 3) (eC (.int 1))) (eIx (eVar 5) (eC (.int 1)))) aNil)))) (sDPutL 2 (eOp gAddA (eDGet2 2 (eVar 7) 0) (eOp gMulA (eVar 4) (eVar 6))) (eVar 7)))
section
variable {o1 o2 : O}
theorem tB_ok {f : PP} (hn : (keysP f).Nodup) (hl : f.length < 100000) (x y : PK × Int) (z : S) {bm bn : Nat} (h0 : 0 < bm) (h0' : 0 < bn) (hb : bm + bn ≤ 100000000) (bx : x.2.natAbs < 2 ^ bm) (by' : y.2.natAbs < 2 ^ bn) : tB [.vl false o1, .vl false o2, .vl true (pO f), .tq (kk x.1), VI x.2, .tq (kk y.1), VI y.2, z] = .nx [.vl false o1, .vl false o2, .vl true (pO (addP f (mulT x y))), .tq (kk x.1), VI x.2, .tq (kk y.1), VI y.2, .vl true (.fz (.tup [.int (x.1.1 + y.1.1), .int (x.1.2 + y.1.2)]))] := by
  let R : Env := [.vl false o1, .vl false o2, .vl true (pO f), .tq (kk x.1), VI x.2, .tq (kk y.1), VI y.2, .vl true (.fz (.tup [.int (x.1.1 + y.1.1), .int (x.1.2 + y.1.2)]))]
  have em : eOp gMulA (eVar 4) (eVar 6) R = .ok (.nw (I (x.2 * y.2))) := by
    rw [op_of (x := .nw (I x.2)) (y := .nw (I y.2)) rfl rfl]
    exact gMul_lt bm bn bx by' h0 h0' hb
  have eg : eDGet2 2 (eVar 7) 0 R = .ok (.nw (I (gv f (x.1.1 + y.1.1, x.1.2 + y.1.2)))) := dget_go (p := f) (k := (x.1.1 + y.1.1, x.1.2 + y.1.2)) (i := 2) (w := true) (o := pO f) rfl rfl (y := .nw (.fz (.tup [.int (x.1.1 + y.1.1), .int (x.1.2 + y.1.2)]))) rfl rfl
  exact seq_go (r' := R) rfl (dput_go (i := 2) (p := f) (k := (x.1.1 + y.1.1, x.1.2 + y.1.2)) (v := gv f (x.1.1 + y.1.1, x.1.2 + y.1.2) + x.2 * y.2) (e_add eg em) rfl rfl (y := .nw (.fz (.tup [.int (x.1.1 + y.1.1), .int (x.1.2 + y.1.2)]))) rfl rfl hn hl)
theorem tw_ok {i j : Nat} {P Q : PP} {oa ob : O} (hi : ∀ z2 z3 z4 z5 z6 z7, ([.vl false o1, .vl false o2, z2, z3, z4, z5, z6, z7] : Env)[i]? = some (.vl false oa)) (hj : ∀ z2 z3 z4 z5 z6 z7, ([.vl false o1, .vl false o2, z2, z3, z4, z5, z6, z7] : Env)[j]? = some (.vl false ob)) (ha : IsQ oa P) (hb : IsQ ob Q) (hl : ∀ xs : PP, (∀ x ∈ xs, x ∈ mulL P Q) → (xs.foldl addP []).length < 100000) {bm bn : Nat} (h0 : 0 < bm) (h0' : 0 < bn) (hbn : bm + bn ≤ 100000000) (bP : ∀ x ∈ P, x.2.natAbs < 2 ^ bm) (bQ : ∀ x ∈ Q, x.2.natAbs < 2 ^ bn) :
    ∃ z3 z4 z5 z6 z7, sForDI i 3 4 (sForDI j 5 6 tB) [.vl false o1, .vl false o2, .vl true (pO []), U, U, U, U, U] = .nx [.vl false o1, .vl false o2, .vl true (pO ((mulL P Q).foldl addP [])), z3, z4, z5, z6, z7] := by
  let E (f : PP) (z3 z4 z5 z6 z7 : S) : Env := [.vl false o1, .vl false o2, .vl true (pO f), z3, z4, z5, z6, z7]
  have n0 := n0P
  obtain ⟨r', hf, z3, z4, z5, z6, z7, er⟩ := fordi_go (i := i) (m := 3) (n := 4) (F := sForDI j 5 6 tB) (P := P) (r := E [] U U U U U) (w := false) (o := oa) (hi _ _ _ _ _ _) ha.dI (fun d r => ∃ z3 z4 z5 z6 z7, r = E ((mulL d Q).foldl addP []) z3 z4 z5 z6 z7) ⟨U, U, U, U, U, rfl⟩ (fun d x e r hp ⟨z3, z4, z5, z6, z7, er⟩ => by
    subst er
    refine ⟨by simp [E], by simp [E], ?_⟩
    have hx : x ∈ P := by rw [← hp]; simp
    obtain ⟨r2, hf2, y5, y6, y7, er2⟩ := fordi_go (i := j) (m := 5) (n := 6) (F := tB) (P := Q) (r := E ((mulL d Q).foldl addP []) (.tq (kk x.1)) (VI x.2) z5 z6 z7) (w := false) (o := ob) (hj _ _ _ _ _ _) hb.dI (fun d2 r => ∃ y5 y6 y7, r = E ((mulL d Q ++ d2.map (mulT x)).foldl addP []) (.tq (kk x.1)) (VI x.2) y5 y6 y7) ⟨z5, z6, z7, by simp⟩ (fun d2 y e2 r hp2 ⟨y5, y6, y7, er2⟩ => by
      subst er2
      refine ⟨by simp [E], by simp [E], ?_⟩
      have hy : y ∈ Q := by rw [← hp2]; simp
      have hlen : ((mulL d Q ++ d2.map (mulT x)).foldl addP []).length < 100000 := hl _ fun z hz => by
        rcases List.mem_append.mp hz with hz | hz
        · obtain ⟨u, hu, hv⟩ := List.mem_flatMap.mp hz
          exact List.mem_flatMap.mpr ⟨u, by rw [← hp]; exact List.mem_append.mpr (.inl hu), hv⟩
        · obtain ⟨u, hu, rfl⟩ := List.mem_map.mp hz
          exact List.mem_flatMap.mpr ⟨x, hx, List.mem_map.mpr ⟨u, by rw [← hp2]; exact List.mem_append.mpr (.inl hu), rfl⟩⟩
      have := tB_ok (o1 := o1) (o2 := o2) (fold_nodup (mulL d Q ++ d2.map (mulT x)) n0) hlen x y y7 h0 h0' hbn (bP x hx) (bQ y hy)
      refine ⟨_, this, .tq (kk y.1), VI y.2, .vl true (.fz (.tup [.int (x.1.1 + y.1.1), .int (x.1.2 + y.1.2)])), ?_⟩
      have e : (mulL d Q ++ (d2 ++ [y]).map (mulT x)).foldl addP [] = addP ((mulL d Q ++ d2.map (mulT x)).foldl addP []) (mulT x y) := by
        rw [List.map_append, ← List.append_assoc]
        exact List.foldl_append
      rw [e])
    subst er2
    refine ⟨_, hf2, .tq (kk x.1), VI x.2, y5, y6, y7, ?_⟩
    rw [mulL_snoc])
  subst er
  exact ⟨z3, z4, z5, z6, z7, hf⟩
end
def timesP (P Q : PP) : PP := nzP ((mulL P Q).foldl addP [])
theorem times_cl (P Q : PP) : Cl (timesP P Q) := Cl.nzP (fold_nodup _ n0P)
theorem times_gv (P Q : PP) (k : PK) : gv (timesP P Q) k = sk (mulL P Q) k := by
  unfold timesP
  rw [gv_nz (fold_nodup _ n0P), fold_gv]
  show 0 + _ = _
  omega
theorem times_okP {o1 o2 : O} {P Q : PP} (h1 : IsQ o1 P) (h2 : IsQ o2 Q) (hl : ∀ xs : PP, (∀ x ∈ xs, x ∈ mulL P Q) → (xs.foldl addP []).length < 100000) {bm bn : Nat} (h0 : 0 < bm) (h0' : 0 < bn) (hbn : bm + bn ≤ 100000000) (bP : ∀ x ∈ P, x.2.natAbs < 2 ^ bm) (bQ : ∀ x ∈ Q, x.2.natAbs < 2 ^ bn) : M_pair_times [o1, o2] = .ok (pO (timesP P Q)) := by
  obtain ⟨z3, z4, z5, z6, z7, hw⟩ := tw_ok (o1 := o1) (o2 := o2) (i := 0) (j := 1) (P := P) (Q := Q) (fun _ _ _ _ _ _ => rfl) (fun _ _ _ _ _ _ => rfl) h1 h2 hl h0 h0' hbn bP bQ
  have hlen : ((mulL P Q).foldl addP []).length < 100000 := hl _ fun z hz => hz
  show runF 8 B_pair_times _ = _
  unfold B_pair_times
  exact run_ret (seq_go (r' := [.vl false o1, .vl false o2, .vl true (pO []), U, U, U, U, U]) (set_go (x := .nw (pO [])) rfl rfl (by simp [startE])) (seq_go hw (ret_go (call1 (x := .vw (pO ((mulL P Q).foldl addP []))) rfl (drop_ok (.inl rfl) (fold_nodup _ n0P) hlen)))))
theorem sk_mul (P Q : PP) (k : PK) : sk (mulL P Q) k = (P.map fun l => (Q.map fun r => if (mulT l r).1 = k then (mulT l r).2 else 0).sum).sum := by
  induction P with
  | nil => rfl
  | cons x P ih =>
    show sk (Q.map (mulT x) ++ mulL P Q) k = _
    rw [sk_append, ih, List.map_cons, List.sum_cons]
    unfold sk
    rw [List.map_map]; rfl
theorem keys_fold : ∀ (xs p : PP) (k : PK), k ∈ keysP (xs.foldl addP p) → k ∈ keysP p ∨ k ∈ keysP xs
  | [], p, k, h => .inl h
  | x :: xs, p, k, h => by
    rcases keys_fold xs (addP p x) k h with h1 | h1
    · unfold addP at h1
      rw [keys_put] at h1
      split at h1
      · exact .inl h1
      · rcases List.mem_append.mp h1 with h2 | h2
        · exact .inl h2
        · exact .inr (by rw [List.mem_singleton.mp h2]; exact List.mem_cons_self)
    · exact .inr (List.mem_cons_of_mem _ h1)
def boxL (a b : Nat) : List PK := (List.range (a + 1)).flatMap fun (i : Nat) => (List.range (b + 1)).map fun (j : Nat) => (((i : Nat) : Int), ((j : Nat) : Int))
theorem boxL_len (a b : Nat) : (boxL a b).length = (a + 1) * (b + 1) := by
  unfold boxL
  rw [List.length_flatMap]
  simp only [List.length_map, List.length_range]
  rw [List.map_const', List.sum_replicate_nat, List.length_range]
theorem mem_box {a b : Nat} {k : PK} (h : (0 ≤ k.1 ∧ k.1 ≤ a) ∧ 0 ≤ k.2 ∧ k.2 ≤ b) : k ∈ boxL a b :=
  List.mem_flatMap.mpr ⟨k.1.toNat, List.mem_range.mpr (by omega), List.mem_map.mpr ⟨k.2.toNat, List.mem_range.mpr (by omega), by
    obtain ⟨x, y⟩ := k
    simp only [Prod.mk.injEq]
    dsimp only at h
    omega⟩⟩
structure Bx (P : PP) (a b m : Nat) : Prop where
  c : Cl P
  k : ∀ x ∈ P, (0 ≤ x.1.1 ∧ x.1.1 ≤ a) ∧ 0 ≤ x.1.2 ∧ x.1.2 ≤ b
  v : ∀ x ∈ P, x.2.natAbs < 2 ^ m
theorem Bx.up {P : PP} {a b m a' b' m' : Nat} (h : Bx P a b m) (ha : a ≤ a') (hb : b ≤ b') (hm : m ≤ m') : Bx P a' b' m' :=
  ⟨h.c, fun x hx => by have := h.k x hx; omega, fun x hx => lt_up (h.v x hx) hm⟩
theorem box_len {P : PP} {a b : Nat} (n : (keysP P).Nodup) (h : ∀ x ∈ P, (0 ≤ x.1.1 ∧ x.1.1 ≤ a) ∧ 0 ≤ x.1.2 ∧ x.1.2 ≤ b) : P.length ≤ (a + 1) * (b + 1) := by
  have h1 := pk_len_le n (ys := boxL a b) fun k hk => by
    obtain ⟨x, hx, e⟩ := List.mem_map.mp hk
    rw [← e]; exact mem_box (h x hx)
  rw [boxL_len] at h1
  rw [show P.length = (keysP P).length from (List.length_map _).symm]; exact h1
theorem Bx.len {P : PP} {a b m : Nat} (h : Bx P a b m) : P.length ≤ (a + 1) * (b + 1) := box_len h.c.n h.k
theorem sum_abs : ∀ (xs : List Int) (B : Nat), (∀ x ∈ xs, x.natAbs ≤ B) → xs.sum.natAbs ≤ xs.length * B
  | [], B, _ => by simp
  | x :: xs, B, h => by
    have h1 := h x List.mem_cons_self
    have h2 := sum_abs xs B fun y hy => h y (List.mem_cons_of_mem _ hy)
    rw [List.sum_cons, List.length_cons, Nat.add_mul, Nat.one_mul]
    omega
theorem mul_keys {P Q : PP} {a b m a' b' m' : Nat} (h : Bx P a b m) (h' : Bx Q a' b' m') : ∀ x ∈ mulL P Q, ((0 ≤ x.1.1 ∧ x.1.1 ≤ (a + a' : Nat)) ∧ 0 ≤ x.1.2 ∧ x.1.2 ≤ (b + b' : Nat)) ∧ x.2.natAbs ≤ 2 ^ (m + m') := fun x hx => by
  obtain ⟨l, hl, h1⟩ := List.mem_flatMap.mp hx
  obtain ⟨r, hr, rfl⟩ := List.mem_map.mp h1
  have k1 := h.k l hl
  have k2 := h'.k r hr
  refine ⟨?_, ?_⟩
  · show ((0 ≤ l.1.1 + r.1.1 ∧ l.1.1 + r.1.1 ≤ _) ∧ 0 ≤ l.1.2 + r.1.2 ∧ l.1.2 + r.1.2 ≤ _)
    omega
  · exact Nat.le_of_lt (natAbs_mul_lt (h.v l hl) (h'.v r hr) (Nat.le_refl _))
theorem mem_gv {P : PP} (n : (keysP P).Nodup) {x : PK × Int} (hx : x ∈ P) : gv P x.1 = x.2 := by
  unfold gv
  rw [(gt_mem n).mpr hx]; rfl
theorem times_bx {P Q : PP} {a b m a' b' m' : Nat} (h : Bx P a b m) (h' : Bx Q a' b' m') (hb : (a + a' + 1) * (b + b' + 1) < 100000) : Bx (timesP P Q) (a + a') (b + b') (m + m' + 34) := by
  have hm := mul_keys h h'
  have hk : ∀ x ∈ timesP P Q, x.1 ∈ keysP (mulL P Q) := fun x hx => by
    have h1 : x ∈ (mulL P Q).foldl addP [] := (List.mem_filter.mp hx).1
    rcases keys_fold (mulL P Q) [] x.1 (List.mem_map.mpr ⟨x, h1, rfl⟩) with z | z
    · cases z
    · exact z
  refine ⟨times_cl P Q, fun x hx => ?_, fun x hx => ?_⟩
  · obtain ⟨y, hy, e⟩ := List.mem_map.mp (hk x hx)
    rw [← e]; exact (hm y hy).1
  · rw [← mem_gv (times_cl P Q).n hx, times_gv]
    have h1 := sum_abs ((mulL P Q).map fun y => if y.1 = x.1 then y.2 else 0) (2 ^ (m + m')) fun z hz => by
      obtain ⟨y, hy, rfl⟩ := List.mem_map.mp hz
      split
      · exact (hm y hy).2
      · simp
    rw [List.length_map, mulL_len] at h1
    have l1 := h.len
    have l2 := h'.len
    have q1 : (a + 1) * (b + 1) ≤ (a + a' + 1) * (b + b' + 1) := Nat.mul_le_mul (by omega) (by omega)
    have q2 : (a' + 1) * (b' + 1) ≤ (a + a' + 1) * (b + b' + 1) := Nat.mul_le_mul (by omega) (by omega)
    have l3 : P.length * Q.length ≤ 100000 * 100000 := Nat.mul_le_mul (by omega) (by omega)
    have l4 : P.length * Q.length * 2 ^ (m + m') < 2 ^ 34 * 2 ^ (m + m') := Nat.mul_lt_mul_of_pos_right (by omega) (Nat.two_pow_pos _)
    rw [← Nat.pow_add, Nat.add_comm 34] at l4
    exact Nat.lt_of_le_of_lt h1 l4
theorem times_ok {o1 o2 : O} {P Q : PP} {a b m a' b' m' : Nat} (h1 : IsQ o1 P) (h2 : IsQ o2 Q) (h : Bx P a b m) (h' : Bx Q a' b' m') (hb : (a + a' + 1) * (b + b' + 1) < 100000) (h0 : 0 < m) (h0' : 0 < m') (hm : m + m' ≤ 100000000) : M_pair_times [o1, o2] = .ok (pO (timesP P Q)) :=
  times_okP h1 h2 (fun xs hxs => by
    refine Nat.lt_of_le_of_lt (box_len (fold_nodup xs n0P) (a := a + a') (b := b + b') fun x hx => ?_) hb
    rcases keys_fold xs [] x.1 (List.mem_map.mpr ⟨x, hx, rfl⟩) with z | z
    · cases z
    · obtain ⟨y, hy, e⟩ := List.mem_map.mp z
      rw [← e]; exact (mul_keys h h' y (hxs y hy)).1) h0 h0' hm h.v h'.v
def oneP : PP := [((0, 0), 1)]
theorem one_bx : Bx oneP 0 0 1 := ⟨⟨by decide, by decide⟩, by decide, by decide⟩
def formP (f : T3) : PP := nzP [((1, 0), f.1), ((0, 1), f.2.1), ((0, 0), f.2.2)]
theorem form_cl (f : T3) : Cl (formP f) := Cl.nzP (by show ([((1, 0) : PK), (0, 1), (0, 0)]).Nodup; decide)
theorem form_bx {f : T3} {m : Nat} (h : f.1.natAbs < 2 ^ m ∧ f.2.1.natAbs < 2 ^ m ∧ f.2.2.natAbs < 2 ^ m) : Bx (formP f) 1 1 m := by
  have hm : ∀ x ∈ formP f, x = (((1, 0), f.1) : PK × Int) ∨ x = ((0, 1), f.2.1) ∨ x = ((0, 0), f.2.2) := fun x hx => by
    have := (List.mem_filter.mp hx).1
    simpa using this
  refine ⟨form_cl f, fun x hx => ?_, fun x hx => ?_⟩
  · rcases hm x hx with rfl | rfl | rfl <;> (dsimp only; omega)
  · rcases hm x hx with rfl | rfl | rfl
    · exact h.1
    · exact h.2.1
    · exact h.2.2
theorem dsp_cons {a b v : Int} {f g : FE} {ps : List (FE × FE)} {r : Env} {kds : List (List L2.Key × D)} (h : g r = .ok (.nw (.fz (.tup [.int a, .int b])))) (h2 : f r = .ok (.nw (I v))) (h3 : dspL ps r = some kds) : dspL ((g, f) :: ps) r = some ((kk (a, b), .int v) :: kds) := by
  simp only [dspL, h, h2, h3]; rfl
theorem dsp_go {ps : List (FE × FE)} {r : Env} {P : PP} (h : dspL ps r = some (P.map fun x => (kk x.1, D.int x.2))) (hn : (keysP P).Nodup) (hl : P.length ≤ 15) : eDspT ps r = .ok (.nw (pO P)) := by
  unfold eDspT
  rw [h]
  have e1 : (P.map fun x => (kk x.1, D.int x.2)).map (·.1) = pks P := by rw [List.map_map]; rfl
  have e2 : (P.map fun x => (kk x.1, D.int x.2)).map (·.2) = pvs P := by rw [List.map_map]; rfl
  dsimp only
  rw [e1, e2, if_pos ⟨pks_nodup hn, by rw [List.length_map]; exact hl⟩]
theorem pform_ok (f : T3) : M_pair_of_form [.fz (t3 f)] = .ok (pO (formP f)) := by
  show runF 1 B_pair_of_form _ = _
  unfold B_pair_of_form
  have n3 : (keysP [((1, 0), f.1), ((0, 1), f.2.1), ((0, 0), f.2.2)]).Nodup := by show ([((1, 0) : PK), (0, 1), (0, 0)]).Nodup; decide
  have e : eDspT (((eTup (aCons (eC (.int 1)) (aCons (eC (.int 0)) aNil))), (eIx (eVar 0) (eC (.int 0)))) :: (((eTup (aCons (eC (.int 0)) (aCons (eC (.int 1)) aNil))), (eIx (eVar 0) (eC (.int 1)))) :: (((eTup (aCons (eC (.int 0)) (aCons (eC (.int 0)) aNil))), (eIx (eVar 0) (eC (.int 2)))) :: []))) [.vl false (.fz (t3 f))] = .ok (.nw (pO [((1, 0), f.1), ((0, 1), f.2.1), ((0, 0), f.2.2)])) :=
    dsp_go (P := [((1, 0), f.1), ((0, 1), f.2.1), ((0, 0), f.2.2)]) (dsp_cons rfl (ix_t 0 (ds := [.int f.1, .int f.2.1, .int f.2.2]) rfl rfl) (dsp_cons rfl (ix_t 1 (ds := [.int f.1, .int f.2.1, .int f.2.2]) rfl rfl) (dsp_cons rfl (ix_t 2 (ds := [.int f.1, .int f.2.1, .int f.2.2]) rfl rfl) rfl))) n3 (by simp)
  exact run_ret (ret_go (call1 (x := .nw (pO [((1, 0), f.1), ((0, 1), f.2.1), ((0, 0), f.2.2)])) e (drop_ok (.inr rfl) n3 (by simp))))
def prj (w : Bool) (k : PK) : Int := if w then k.1 else k.2
def lexLe (w : Bool) (k K : PK) : Prop := prj w k < prj w K ∨ (prj w k = prj w K ∧ prj (!w) k ≤ prj (!w) K)
def Ld (w : Bool) (P : PP) (K : PK) : Prop := gv P K ≠ 0 ∧ ∀ x ∈ P, lexLe w x.1 K
theorem prj_ext {w : Bool} {k K : PK} (h : prj w k = prj w K) (h2 : prj (!w) k = prj (!w) K) : k = K := by
  obtain ⟨a, b⟩ := k
  obtain ⟨c, d⟩ := K
  cases w <;> simp [prj] at h h2 <;> simp [h, h2]
theorem sum_zero {β : Type} (f : β → Int) : ∀ (xs : List β), (∀ x ∈ xs, f x = 0) → (xs.map f).sum = 0
  | [], _ => rfl
  | x :: xs, h => by
    rw [List.map_cons, List.sum_cons, h x List.mem_cons_self, sum_zero f xs fun y hy => h y (List.mem_cons_of_mem _ hy)]; rfl
theorem sum_one {f : PK × Int → Int} : ∀ {P : PP} {x0 : PK × Int}, (keysP P).Nodup → x0 ∈ P → (∀ x ∈ P, x.1 ≠ x0.1 → f x = 0) → (P.map f).sum = f x0
  | [], _, _, h, _ => nomatch h
  | x :: P, x0, n, h, hz => by
    have n' := List.nodup_cons.mp n
    rw [List.map_cons, List.sum_cons]
    rcases List.mem_cons.mp h with e | h'
    · subst e
      rw [sum_zero f P fun y hy => hz y (List.mem_cons_of_mem _ hy) fun z => n'.1 (List.mem_map.mpr ⟨y, hy, z⟩)]
      omega
    · rw [sum_one n'.2 h' fun y hy => hz y (List.mem_cons_of_mem _ hy), hz x List.mem_cons_self fun z => n'.1 (List.mem_map.mpr ⟨x0, h', z.symm⟩)]
      omega
theorem prj_add (w : Bool) (k K : PK) : prj w (k.1 + K.1, k.2 + K.2) = prj w k + prj w K := by cases w <;> rfl
theorem gv_mem {P : PP} (c : Cl P) {K : PK} (h : gv P K ≠ 0) : ∃ x ∈ P, x.1 = K ∧ x.2 = gv P K := by
  obtain ⟨x, hx, e⟩ := List.mem_map.mp ((c.key K).mpr h)
  exact ⟨x, hx, e, by rw [← e, mem_gv c.n hx]⟩
theorem Ld.times {w : Bool} {P Q : PP} {K K' : PK} (cP : Cl P) (cQ : Cl Q) (h : Ld w P K) (h' : Ld w Q K') : Ld w (timesP P Q) (K.1 + K'.1, K.2 + K'.2) := by
  obtain ⟨x0, hx0, ex, vx⟩ := gv_mem cP h.1
  obtain ⟨y0, hy0, ey, vy⟩ := gv_mem cQ h'.1
  refine ⟨?_, fun z hz => ?_⟩
  · rw [times_gv, sk_mul]
    have inner : ∀ l ∈ P, l.1 ≠ x0.1 → (Q.map fun r => if (mulT l r).1 = (K.1 + K'.1, K.2 + K'.2) then (mulT l r).2 else 0).sum = 0 := fun l hl hne => sum_zero _ _ fun r hr => by
      refine if_neg fun z => hne ?_
      rw [ex]
      have a1 := h.2 l hl
      have a2 := h'.2 r hr
      have e1 : prj w (mulT l r).1 = prj w K + prj w K' := by rw [z, prj_add]
      have e2 : prj (!w) (mulT l r).1 = prj (!w) K + prj (!w) K' := by rw [z, prj_add]
      rw [show (mulT l r).1 = (l.1.1 + r.1.1, l.1.2 + r.1.2) from rfl, prj_add] at e1 e2
      unfold lexLe at a1 a2
      exact prj_ext (w := w) (by omega) (by omega)
    rw [sum_one cP.n hx0 inner]
    have outer : ∀ r ∈ Q, r.1 ≠ y0.1 → (if (mulT x0 r).1 = (K.1 + K'.1, K.2 + K'.2) then (mulT x0 r).2 else 0) = 0 := fun r hr hne => by
      refine if_neg fun z => hne ?_
      rw [ey]
      have e : (x0.1.1 + r.1.1, x0.1.2 + r.1.2) = (K.1 + K'.1, K.2 + K'.2) := z
      rw [ex] at e
      have e1 := congrArg Prod.fst e
      have e2 := congrArg Prod.snd e
      dsimp only at e1 e2
      exact Prod.ext (by omega) (by omega)
    rw [sum_one (f := fun r => if (mulT x0 r).1 = (K.1 + K'.1, K.2 + K'.2) then (mulT x0 r).2 else 0) cQ.n hy0 outer]
    rw [if_pos (by show (x0.1.1 + y0.1.1, x0.1.2 + y0.1.2) = _; rw [ex, ey])]
    show x0.2 * y0.2 ≠ 0
    rw [vx, vy]
    exact Int.mul_ne_zero h.1 h'.1
  · have h1 : z ∈ (mulL P Q).foldl addP [] := (List.mem_filter.mp hz).1
    rcases keys_fold (mulL P Q) [] z.1 (List.mem_map.mpr ⟨z, h1, rfl⟩) with q | q
    · cases q
    · obtain ⟨u, hu, e⟩ := List.mem_map.mp q
      obtain ⟨l, hl, h2⟩ := List.mem_flatMap.mp hu
      obtain ⟨r, hr, rfl⟩ := List.mem_map.mp h2
      rw [← e]
      have a1 := h.2 l hl
      have a2 := h'.2 r hr
      have e1 : ∀ w, prj w (mulT l r).1 = prj w l.1 + prj w r.1 := fun w => prj_add w l.1 r.1
      unfold lexLe at a1 a2 ⊢
      rw [e1, e1, prj_add, prj_add]
      omega
theorem mulL_nil (P : PP) : mulL P [] = [] := by
  unfold mulL
  induction P with
  | nil => rfl
  | cons x P ih => rw [List.flatMap_cons, ih]; rfl
def Dg (w z : Bool) (P : PP) (d : Int) : Prop := if z then P = [] else ∃ K, Ld w P K ∧ prj w K = d
theorem Dg.times {w z z' : Bool} {P Q : PP} {d d' : Int} (cP : Cl P) (cQ : Cl Q) (h : Dg w z P d) (h' : Dg w z' Q d') : Dg w (z || z') (timesP P Q) (d + d') := by
  unfold Dg at *
  cases z with
  | true =>
    rw [if_pos rfl] at h
    rw [if_pos (by simp), h]; rfl
  | false =>
    cases z' with
    | true =>
      rw [if_pos rfl] at h'
      rw [if_pos (by simp), h']
      unfold timesP
      rw [mulL_nil]; rfl
    | false =>
      rw [if_neg (by simp)] at h h' ⊢
      obtain ⟨K, h1, e1⟩ := h
      obtain ⟨K', h2, e2⟩ := h'
      exact ⟨_, Ld.times cP cQ h1 h2, by rw [prj_add, e1, e2]⟩
theorem Dg.eq {w z : Bool} {P : PP} {d d' : Int} (h : Dg w z P d) (e : d = d') : Dg w z P d' := e ▸ h
theorem Dg.one (w : Bool) : Dg w false oneP 0 := by
  unfold Dg
  rw [if_neg (by simp)]
  exact ⟨(0, 0), ⟨by decide, fun x hx => by
    have : x = ((0, 0), 1) := by simpa [oneP] using hx
    rw [this]
    exact .inr ⟨rfl, Int.le_refl _⟩⟩, by cases w <;> rfl⟩
theorem Dg.num (w : Bool) {v : Int} (hv : v ≠ 0) : Dg w false [((0, 0), v)] 0 := by
  unfold Dg
  rw [if_neg (by simp)]
  refine ⟨(0, 0), ⟨?_, fun x hx => ?_⟩, by cases w <;> rfl⟩
  · show (if ((0, 0) : PK) = (0, 0) then some v else none).getD 0 ≠ 0
    rw [if_pos rfl]; exact hv
  · have : x = ((0, 0), v) := by simpa using hx
    rw [this]
    exact .inr ⟨rfl, Int.le_refl _⟩
def cf (w : Bool) (f : T3) : Int := if w then f.1 else f.2.1
def zf (f : T3) : Bool := decide (f.1 = 0) && decide (f.2.1 = 0) && decide (f.2.2 = 0)
theorem gv_form (f : T3) (k : PK) : gv (formP f) k = if k = (1, 0) then f.1 else if k = (0, 1) then f.2.1 else if k = (0, 0) then f.2.2 else 0 := by
  unfold formP
  rw [gv_nz (by show ([((1, 0) : PK), (0, 1), (0, 0)]).Nodup; decide)]
  unfold gv gt
  by_cases h1 : k = (1, 0)
  · rw [if_pos h1, if_pos h1.symm]; rfl
  · rw [if_neg h1, if_neg (fun z => h1 z.symm)]
    unfold gt
    by_cases h2 : k = (0, 1)
    · rw [if_pos h2, if_pos h2.symm]; rfl
    · rw [if_neg h2, if_neg (fun z => h2 z.symm)]
      unfold gt
      by_cases h3 : k = (0, 0)
      · rw [if_pos h3, if_pos h3.symm]; rfl
      · rw [if_neg h3, if_neg (fun z => h3 z.symm)]; rfl
theorem form_mem {f : T3} {x : PK × Int} (h : x ∈ formP f) : (x.1 = (1, 0) ∧ f.1 ≠ 0) ∨ (x.1 = (0, 1) ∧ f.2.1 ≠ 0) ∨ (x.1 = (0, 0) ∧ f.2.2 ≠ 0) := by
  obtain ⟨h1, h2⟩ := List.mem_filter.mp h
  have h3 : x.2 ≠ 0 := by simpa using h2
  have : x = ((1, 0), f.1) ∨ x = ((0, 1), f.2.1) ∨ x = ((0, 0), f.2.2) := by simpa using h1
  rcases this with rfl | rfl | rfl
  · exact .inl ⟨rfl, h3⟩
  · exact .inr (.inl ⟨rfl, h3⟩)
  · exact .inr (.inr ⟨rfl, h3⟩)
theorem Dg.form (w : Bool) (f : T3) : Dg w (zf f) (formP f) (if cf w f = 0 then 0 else 1) := by
  obtain ⟨a, b, c⟩ := f
  unfold Dg
  by_cases hz : zf (a, b, c) = true
  · rw [if_pos hz]
    simp [zf] at hz
    obtain ⟨⟨rfl, rfl⟩, rfl⟩ := hz
    rfl
  · rw [if_neg hz]
    have top : ∀ K : PK, gv (formP (a, b, c)) K ≠ 0 → prj w K = (if cf w (a, b, c) = 0 then 0 else 1) → (∀ x ∈ formP (a, b, c), lexLe w x.1 K) → ∃ K, Ld w (formP (a, b, c)) K ∧ prj w K = (if cf w (a, b, c) = 0 then 0 else 1) := fun K h1 h2 h3 => ⟨K, ⟨h1, h3⟩, h2⟩
    cases w with
    | true =>
      by_cases ha : a = 0
      · by_cases hb : b = 0
        · have hc : c ≠ 0 := fun z => hz (by simp [zf, ha, hb, z])
          refine top (0, 0) (by rw [gv_form]; simpa using hc) (by simp [prj, cf, ha]) fun x hx => ?_
          rcases form_mem hx with ⟨e, q⟩ | ⟨e, q⟩ | ⟨e, q⟩
          · exact absurd ha q
          · exact absurd hb q
          · rw [e]; exact .inr ⟨rfl, Int.le_refl _⟩
        · refine top (0, 1) (by rw [gv_form]; simpa using hb) (by simp [prj, cf, ha]) fun x hx => ?_
          rcases form_mem hx with ⟨e, q⟩ | ⟨e, q⟩ | ⟨e, q⟩
          · exact absurd ha q
          · rw [e]; exact .inr ⟨rfl, Int.le_refl _⟩
          · rw [e]; exact .inr ⟨rfl, by decide⟩
      · refine top (1, 0) (by rw [gv_form]; simpa using ha) (by simp [prj, cf, ha]) fun x hx => ?_
        rcases form_mem hx with ⟨e, q⟩ | ⟨e, q⟩ | ⟨e, q⟩
        · rw [e]; exact .inr ⟨rfl, Int.le_refl _⟩
        · rw [e]; exact .inl (by decide)
        · rw [e]; exact .inl (by decide)
    | false =>
      by_cases hb : b = 0
      · by_cases ha : a = 0
        · have hc : c ≠ 0 := fun z => hz (by simp [zf, ha, hb, z])
          refine top (0, 0) (by rw [gv_form]; simpa using hc) (by simp [prj, cf, hb]) fun x hx => ?_
          rcases form_mem hx with ⟨e, q⟩ | ⟨e, q⟩ | ⟨e, q⟩
          · exact absurd ha q
          · exact absurd hb q
          · rw [e]; exact .inr ⟨rfl, Int.le_refl _⟩
        · refine top (1, 0) (by rw [gv_form]; simpa using ha) (by simp [prj, cf, hb]) fun x hx => ?_
          rcases form_mem hx with ⟨e, q⟩ | ⟨e, q⟩ | ⟨e, q⟩
          · rw [e]; exact .inr ⟨rfl, Int.le_refl _⟩
          · exact absurd hb q
          · rw [e]; exact .inr ⟨rfl, by decide⟩
      · refine top (0, 1) (by rw [gv_form]; simpa using hb) (by simp [prj, cf, hb]) fun x hx => ?_
        rcases form_mem hx with ⟨e, q⟩ | ⟨e, q⟩ | ⟨e, q⟩
        · rw [e]; exact .inl (by decide)
        · rw [e]; exact .inr ⟨rfl, Int.le_refl _⟩
        · rw [e]; exact .inl (by decide)
theorem for_rng2 {fs : Env → Res (List O)} {m : Nat} {F : FS} {r : Env} {a b : Int} (E : Nat → S → Env) {y0 : S} (he : r = E 0 y0) (h : fs r = .ok [I a, I b]) (ha : -(2 ^ 62) ≤ a ∧ a < 2 ^ 62) (hb : -(2 ^ 62) ≤ b ∧ b < 2 ^ 62) (hm : ∀ j y, m < (E j y).length) (hs : ∀ (j : Nat) (y : S), j < (b - a).toNat → ∃ y', F ((E j y).set m (VI (a + j))) = .nx (E (j + 1) y')) : ∃ y', sFor (iRng rng2 fs) (gN m) F r = .nx (E (b - a).toNat y') := by
  have e := rng2_go h ha.1 ha.2 hb.1 hb.2
  obtain ⟨r', e2, y, hr⟩ := forL_inv (fg := gN m) (F := F) (its := (List.range (b - a).toNat).map fun (k : Nat) => intR (a + (k : Nat))) (r := r) (fun i r => ∃ y : S, r = E i y) ⟨y0, he⟩ (fun i y r hy ⟨z, hr⟩ => by
    subst hr
    obtain ⟨hi, rfl⟩ : i < (b - a).toNat ∧ y = intR (a + (i : Int)) := by
      rw [List.getElem?_map] at hy
      cases hj : (List.range (b - a).toNat)[i]? with
      | none => rw [hj] at hy; cases hy
      | some j =>
        rw [hj] at hy
        obtain ⟨h1, h2⟩ := List.getElem?_eq_some_iff.mp hj
        simp at h1 h2
        subst h2
        exact ⟨by omega, (Option.some.inj hy).symm⟩
    obtain ⟨y', hy'⟩ := hs i z hi
    exact ⟨_, _, by simp [intR, hm], hy', y', rfl⟩)
  rw [List.length_map, List.length_range] at hr
  exact ⟨y, for_go e (by rw [e2, hr])⟩
theorem meth_ok {tab : List (PySem.Str × (List O → Res O))} {m : PySem.Str} {fo : FE} {fs : Env → Res (List O)} {r : Env} {x : R} {c : PySem.Str} {ns : List PySem.Str} {M : List O → Res O} {os : List O} {o : O} (hf : fo r = .ok x) (hc : clsO x.a = some (c, ns)) (hm : m ∉ ns) (ht : tab.lookup c = some M) (hs : fs r = .ok os) (hM : M (x.a :: os) = .ok o) :
    eMeth tab m fo fs r = .ok (.nw o) := by
  rw [eMeth, hf]
  dsimp only
  rw [hc]
  dsimp only
  rw [if_neg hm, ht]
  dsimp only
  rw [hs, res_ok, hM]; rfl
def clPt : Pt → PySem.Str × List PySem.Str
  | .ch _ _ => ("Choose", ["high", "lows"])
  | .wt _ => ("Weight", ["form"])
  | .pw _ => ("Power", ["fraction"])
  | .gr _ => ("Growth", ["fraction"])
theorem cls_pt (p : Pt) : clsO (.fz (ptE p)) = some (clPt p) := by cases p <;> rfl
theorem fld_lows {i : Nat} {r : Env} {h l : T3} (hi : r[i]? = some (.vl false (.fz (ptE (.ch h l))))) : eFld TF_lows "lows" (eVar i) r = .ok (.nw (.fz (.lst [t3 l, t3 (dif3 h l)]))) := by
  have e : eVar i r = .ok (.nw (.fz (ptE (.ch h l)))) := by unfold eVar; rw [hi]; rfl
  rw [eFld, e, res_ok]
  show fldR TF_lows "lows" (.nw (.fz (.obj "Choose" ["high", "lows"] [t3 h, .lst [t3 l, t3 (dif3 h l)]]))) = _
  simp [fldR, TF_lows, show (PySem.Str.ofString "lows" == PySem.Str.ofString "high") = false from by decide, List.lookup]
theorem fld_high {i : Nat} {r : Env} {h l : T3} (hi : r[i]? = some (.vl false (.fz (ptE (.ch h l))))) : eFld TF_high "high" (eVar i) r = .ok (.nw (.fz (t3 h))) := by
  have e : eVar i r = .ok (.nw (.fz (ptE (.ch h l)))) := by unfold eVar; rw [hi]; rfl
  rw [eFld, e, res_ok]
  show fldR TF_high "high" (.nw (.fz (.obj "Choose" ["high", "lows"] [t3 h, .lst [t3 l, t3 (dif3 h l)]]))) = _
  simp [fldR, TF_high, List.lookup]
theorem fld_form {i : Nat} {r : Env} {f : T3} (hi : r[i]? = some (.vl false (.fz (ptE (.wt f))))) : eFld TF_form "form" (eVar i) r = .ok (.nw (.fz (t3 f))) := by
  have e : eVar i r = .ok (.nw (.fz (ptE (.wt f)))) := by unfold eVar; rw [hi]; rfl
  rw [eFld, e, res_ok]
  show fldR TF_form "form" (.nw (.fz (.obj "Weight" ["form"] [t3 f]))) = _
  simp [fldR, TF_form, List.lookup]
theorem fld_frac {i : Nat} {r : Env} {f : Int × Int} {p : Pt} (hp : p = .pw f ∨ p = .gr f) (hi : r[i]? = some (.vl false (.fz (ptE p)))) : eFld TF_fraction "fraction" (eVar i) r = .ok (.nw (.fz (fD f))) := by
  have e : eVar i r = .ok (.nw (.fz (ptE p))) := by unfold eVar; rw [hi]; rfl
  rw [eFld, e, res_ok]
  rcases hp with rfl | rfl
  · show fldR TF_fraction "fraction" (.nw (.fz (.obj "Power" ["fraction"] [fD f]))) = _
    simp [fldR, TF_fraction, List.lookup]
  · show fldR TF_fraction "fraction" (.nw (.fz (.obj "Growth" ["fraction"] [fD f]))) = _
    simp [fldR, TF_fraction, List.lookup]
def lt3 (m : Nat) (f : T3) : Prop := f.1.natAbs < 2 ^ m ∧ f.2.1.natAbs < 2 ^ m ∧ f.2.2.natAbs < 2 ^ m
def risP (f : T3) (lo : Int) : Nat → PP
  | 0 => oneP
  | n + 1 => timesP (risP f lo n) (formP (f.1, f.2.1, f.2.2 + (lo + n)))
def risR (f : T3) (lo hi : Int) : PP := risP f lo (hi + 1 - lo).toNat
theorem ris_form {f : T3} {lo : Int} (hf : lt3 9 f) (hlo : -100 ≤ lo ∧ lo ≤ 100) {n : Nat} (hn : n ≤ 100) : Bx (formP (f.1, f.2.1, f.2.2 + (lo + n))) 1 1 10 := form_bx (by
  unfold lt3 at hf
  dsimp only
  omega)
theorem ris_bx {f : T3} {lo : Int} (hf : lt3 9 f) (hlo : -100 ≤ lo ∧ lo ≤ 100) : ∀ n : Nat, n ≤ 100 → Bx (risP f lo n) n n (1 + 44 * n)
  | 0, _ => one_bx
  | n + 1, h => by
    have h1 := ris_bx hf hlo n (by omega)
    have h2 := ris_form hf hlo (n := n) (by omega)
    have h3 := times_bx h1 h2 (by
      have : (n + 1 + 1) * (n + 1 + 1) ≤ 101 * 101 := Nat.mul_le_mul (by omega) (by omega)
      omega)
    exact h3.up (Nat.le_refl _) (Nat.le_refl _) (by omega)
theorem num_ev {f : FE} {r : Env} {v : Int} (h : f r = .ok (.nw (I v))) : eDspT (((eTup (aCons (eC (.int 0)) (aCons (eC (.int 0)) aNil))), f) :: []) r = .ok (.nw (pO [((0, 0), v)])) :=
  dsp_go (P := [((0, 0), v)]) (dsp_cons rfl h rfl) (by show ([((0, 0) : PK)]).Nodup; decide) (by simp)
theorem one_ev (r : Env) : eDspT (((eTup (aCons (eC (.int 0)) (aCons (eC (.int 0)) aNil))), (eC (.int 1))) :: []) r = .ok (.nw (pO oneP)) := num_ev (eC_ev _)
theorem rising_ok {f : T3} {lo hi : Int} (hf : lt3 9 f) (hlo : -100 ≤ lo ∧ lo ≤ 100) (hhi : -1000 ≤ hi ∧ hi ≤ 1000) (hn : hi + 1 - lo ≤ 100) : M_rising [.fz (t3 f), I lo, I hi] = .ok (.fz (pD (risR f lo hi))) := by
  let E (j : Nat) (y : S) : Env := [.vl false (.fz (t3 f)), .vl false (I lo), .vl false (I hi), .vl true (.fz (pD (risP f lo j))), y]
  obtain ⟨y', h1⟩ := for_rng2 (fs := aCons (eVar 1) (aCons (eOp gAddA (eVar 2) (eC (.int 1))) aNil)) (m := 4) (F := sSet 3 false (eCall M_pair_times (aCons (eVar 3) (aCons (eCall M_pair_of_form (aCons (eTup (aCons (eIx (eVar 0) (eC (.int 0))) (aCons (eIx (eVar 0) (eC (.int 1))) (aCons (eOp gAddA (eIx (eVar 0) (eC (.int 2))) (eVar 4)) aNil)))) aNil)) aNil)))) (r := E 0 .un) (a := lo) (b := hi + 1) E rfl
    (by
      have := e_add (f := eVar 2) (g := eC (.int 1)) (r := E 0 .un) (a := hi) (b := 1) rfl (eC_ev _)
      simp only [aCons_ev, this, res_ok, aNil_ev]; rfl) (by omega) (by omega) (fun j y => by simp [E]) (fun j y hj => by
      refine ⟨VI (lo + j), ?_⟩
      have e0 : eIx (eVar 0) (eC (.int 0)) ((E j y).set 4 (VI (lo + j))) = .ok (.nw (I f.1)) := ix_t 0 (ds := [.int f.1, .int f.2.1, .int f.2.2]) rfl rfl
      have e1 : eIx (eVar 0) (eC (.int 1)) ((E j y).set 4 (VI (lo + j))) = .ok (.nw (I f.2.1)) := ix_t 1 (ds := [.int f.1, .int f.2.1, .int f.2.2]) rfl rfl
      have e2 : eIx (eVar 0) (eC (.int 2)) ((E j y).set 4 (VI (lo + j))) = .ok (.nw (I f.2.2)) := ix_t 2 (ds := [.int f.1, .int f.2.1, .int f.2.2]) rfl rfl
      have b1 := ris_bx hf hlo j (by omega)
      have b2 := ris_form hf hlo (n := j) (by omega)
      refine set_go (x := .nw (pO (risP f lo (j + 1)))) (call2 (x := .nw (.fz (pD (risP f lo j)))) (y := .nw (pO (formP (f.1, f.2.1, f.2.2 + (lo + j))))) rfl (call1 (e_t3 e0 e1 (e_add e2 (b := lo + j) rfl)) (pform_ok _)) (times_ok (.inr rfl) (.inr rfl) b1 b2 ?_ (by omega) (by omega) (by omega))) rfl (by simp [E])
      have : (j + 1 + 1) * (j + 1 + 1) ≤ 102 * 102 := Nat.mul_le_mul (by omega) (by omega)
      omega)
  show runF 5 B_rising _ = _
  unfold B_rising
  exact run_ret (seq_go (r' := E 0 .un) (set_go (x := .nw (pO oneP)) (one_ev _) rfl (by simp [startE])) (seq_go h1 rfl))
theorem ris_dg (w : Bool) {f : T3} {lo : Int} (hf : lt3 9 f) (hlo : -100 ≤ lo ∧ lo ≤ 100) (hz : f.1 ≠ 0 ∨ f.2.1 ≠ 0) : ∀ n : Nat, n ≤ 100 → Dg w false (risP f lo n) (if cf w f = 0 then 0 else n)
  | 0, _ => (Dg.one w).eq (by split <;> rfl)
  | n + 1, h => by
    have h1 := ris_dg w hf hlo hz n (by omega)
    have h2 := Dg.form w (f.1, f.2.1, f.2.2 + (lo + n))
    have z : zf (f.1, f.2.1, f.2.2 + (lo + n)) = false := by
      unfold zf
      rcases hz with q | q <;> simp [q]
    rw [z] at h2
    have h3 := Dg.times (ris_bx hf hlo n (by omega)).c (form_cl _) h1 h2
    refine h3.eq ?_
    rw [show cf w (f.1, f.2.1, f.2.2 + (lo + n)) = cf w f by cases w <;> rfl]
    split <;> omega
theorem risR_dg (w : Bool) {f : T3} {lo hi : Int} (hf : lt3 9 f) (hlo : -100 ≤ lo ∧ lo ≤ 100) (hn : hi + 1 - lo ≤ 100) (hz : hi + 1 - lo ≤ 0 ∨ f.1 ≠ 0 ∨ f.2.1 ≠ 0) : Dg w false (risR f lo hi) (if cf w f = 0 then 0 else ((hi + 1 - lo).toNat : Int)) := by
  unfold risR
  by_cases h0 : hi + 1 - lo ≤ 0
  · rw [show (hi + 1 - lo).toNat = 0 by omega]
    exact (Dg.one w).eq (by split <;> rfl)
  · exact ris_dg w hf hlo (by omega) _ (by omega)
theorem risR_bx {f : T3} {lo hi : Int} (hf : lt3 9 f) (hlo : -100 ≤ lo ∧ lo ≤ 100) {n : Nat} (hn : hi + 1 - lo ≤ n) (h100 : n ≤ 100) : Bx (risR f lo hi) n n (1 + 44 * n) :=
  (ris_bx hf hlo (hi + 1 - lo).toNat (by omega)).up (by omega) (by omega) (by omega)
def mx0 (x : Int) : Int := if x > 0 then x else 0
def rl (far : Int) (f : T3) : T3 := (f.1, f.2.1, f.2.2 + far * mx0 f.1)
def riS (f : T3) (i far : Int) : PP := risR f (i * f.1 + 1) (mx0 (far * f.1))
def stpC (h l : T3) (i far : Int) : PP := timesP (timesP (risR h 1 (i * h.1)) (riS l i far)) (riS (dif3 h l) i far)
def upR (f : T3) (far : Int) : PP := risR (rl far f) (f.2.1 + 1) 0
def upC (h l : T3) (far : Int) : PP := timesP (timesP (risR h 1 h.2.1) (upR l far)) (upR (dif3 h l) far)
def dnR (f : T3) (far : Int) : PP := risR (rl far f) 1 f.2.1
def dnC (h l : T3) (far : Int) : PP := timesP (timesP oneP (dnR l far)) (dnR (dif3 h l) far)
def stpPt : Pt → Int → Int → PP
  | .ch h l, i, far => stpC h l i far
  | .wt f, i, _ => formP (f.1, f.2.1, f.2.2 + i * f.1)
  | .pw _, _, _ => oneP
  | .gr f, i, far => [((0, 0), f.1 ^ i.toNat * f.2 ^ (far - i).toNat)]
def upPt : Pt → Int → PP
  | .ch h l, far => upC h l far
  | .wt _, _ => oneP
  | .pw f, _ => [((0, 0), f.1)]
  | .gr _, _ => oneP
def dnPt : Pt → Int → PP
  | .ch h l, far => dnC h l far
  | .wt _, _ => oneP
  | .pw f, _ => [((0, 0), f.2)]
  | .gr _, _ => oneP
def okLo (f : T3) : Prop := -3 ≤ f.1 ∧ f.1 ≤ 6 ∧ -3 ≤ f.2.1 ∧ f.2.1 ≤ 6 ∧ -9 ≤ f.2.2 ∧ f.2.2 ≤ 18
theorem okCh.lo {h l : T3} (hk : okCh h l) : okLo l ∧ okLo (dif3 h l) ∧ okLo h := by
  unfold okCh at hk
  unfold okLo dif3
  dsimp only
  omega
theorem mul3 {i a : Int} (hi : 0 ≤ i ∧ i ≤ 2) : i * a = 0 ∨ i * a = a ∨ i * a = 2 * a := by
  have : i = 0 ∨ i = 1 ∨ i = 2 := by omega
  rcases this with h | h | h <;> subst h <;> omega
theorem okLo.lt {f : T3} (h : okLo f) : lt3 9 f := by
  unfold okLo at h
  unfold lt3
  omega
theorem mx0_b {a : Int} (h : a ≤ 6) : 0 ≤ mx0 a ∧ mx0 a ≤ 6 := by
  unfold mx0; split <;> omega
theorem okLo.rlt {f : T3} (h : okLo f) {far : Int} (hf : 0 ≤ far ∧ far ≤ 2) : lt3 9 (rl far f) := by
  unfold okLo at h
  have h1 := mx0_b (a := f.1) (by omega)
  have h2 := mul3 (a := mx0 f.1) hf
  unfold lt3 rl
  dsimp only
  omega
theorem riS_n {f : T3} (h : okLo f) {i far : Int} (hi : 0 ≤ i ∧ i ≤ far) (hf : far ≤ 2) : (-6 ≤ i * f.1 + 1 ∧ i * f.1 + 1 ≤ 13) ∧ (0 ≤ mx0 (far * f.1) ∧ mx0 (far * f.1) ≤ 12) ∧ mx0 (far * f.1) + 1 - (i * f.1 + 1) = far * mx0 f.1 - i * f.1 ∧ far * mx0 f.1 - i * f.1 ≤ 12 ∧ 0 ≤ far * mx0 f.1 - i * f.1 := by
  unfold okLo at h
  have h1 := mul3 (i := i) (a := f.1) (by omega)
  have e : far = 0 ∨ far = 1 ∨ far = 2 := by omega
  have e2 : i = 0 ∨ i = 1 ∨ i = 2 := by omega
  unfold mx0
  rcases e with e | e | e <;> rcases e2 with e2 | e2 | e2 <;> subst e e2 <;> (try omega) <;> split <;> split <;> omega
theorem riS_bx {f : T3} (h : okLo f) {i far : Int} (hi : 0 ≤ i ∧ i ≤ far) (hf : far ≤ 2) : Bx (riS f i far) 12 12 529 := by
  obtain ⟨a1, a2, a3, a4, a5⟩ := riS_n h hi hf
  exact risR_bx h.lt (by omega) (n := 12) (by omega) (by omega)
theorem hi_bx {h l : T3} (hk : okCh h l) {i : Int} (hi : 0 ≤ i ∧ i ≤ 2) : (0 ≤ i * h.1 ∧ i * h.1 ≤ 6) ∧ Bx (risR h 1 (i * h.1)) 6 6 265 := by
  have h3 := hk.lo.2.2.lt
  unfold okCh at hk
  have h1 := mul3 (i := i) (a := h.1) (by omega)
  exact ⟨by omega, risR_bx h3 (by omega) (n := 6) (by omega) (by omega)⟩
theorem stpC_bx {h l : T3} (hk : okCh h l) {i far : Int} (hi : 0 ≤ i ∧ i ≤ far) (hf : far ≤ 2) : Bx (timesP (risR h 1 (i * h.1)) (riS l i far)) 18 18 828 ∧ Bx (stpC h l i far) 30 30 1400 := by
  have b1 := (hi_bx hk (i := i) (by omega)).2
  have b2 := times_bx b1 (riS_bx hk.lo.1 hi hf) (by decide)
  exact ⟨b2, (times_bx b2 (riS_bx hk.lo.2.1 hi hf) (by decide)).up (by omega) (by omega) (by omega)⟩
theorem upR_bx {f : T3} (h : okLo f) {far : Int} (hf : 0 ≤ far ∧ far ≤ 2) : Bx (upR f far) 12 12 529 := by
  have h1 := h.rlt hf
  unfold okLo at h
  exact risR_bx h1 (by omega) (n := 12) (by omega) (by omega)
theorem dnR_bx {f : T3} (h : okLo f) {far : Int} (hf : 0 ≤ far ∧ far ≤ 2) : Bx (dnR f far) 12 12 529 := by
  have h1 := h.rlt hf
  unfold okLo at h
  exact risR_bx h1 (by omega) (n := 12) (by omega) (by omega)
theorem upC_bx {h l : T3} (hk : okCh h l) {far : Int} (hf : 0 ≤ far ∧ far ≤ 2) : Bx (risR h 1 h.2.1) 6 6 265 ∧ Bx (timesP (risR h 1 h.2.1) (upR l far)) 18 18 828 ∧ Bx (upC h l far) 30 30 1400 := by
  have h3 := hk.lo.2.2.lt
  have b1 : Bx (risR h 1 h.2.1) 6 6 265 := risR_bx h3 (by omega) (n := 6) (by unfold okCh at hk; omega) (by omega)
  have b2 := times_bx b1 (upR_bx hk.lo.1 hf) (by decide)
  exact ⟨b1, b2, (times_bx b2 (upR_bx hk.lo.2.1 hf) (by decide)).up (by omega) (by omega) (by omega)⟩
theorem dnC_bx {h l : T3} (hk : okCh h l) {far : Int} (hf : 0 ≤ far ∧ far ≤ 2) : Bx (timesP oneP (dnR l far)) 12 12 564 ∧ Bx (dnC h l far) 30 30 1400 := by
  have b2 := times_bx one_bx (dnR_bx hk.lo.1 hf) (by decide)
  exact ⟨b2.up (by omega) (by omega) (by omega), (times_bx b2 (dnR_bx hk.lo.2.1 hf) (by decide)).up (by omega) (by omega) (by omega)⟩
theorem max0_ev {f : FE} {r : Env} {x : Int} (h : f r = .ok (.nw (I x))) : eB gMax2 (aCons (eC (.int 0)) (aCons f aNil)) r = .ok (.nw (I (mx0 x))) := by
  simp only [eB_ev, aCons_ev, eC_ev, h, res_ok, aNil_ev, ra_nw, er_fz]
  exact gMax_ev 0 x
theorem cstep_ok {h l : T3} (hk : okCh h l) {i far : Int} (hi : 0 ≤ i ∧ i ≤ far) (hf : far ≤ 2) : M_Choose_step [.fz (ptE (.ch h l)), I i, I far] = .ok (.fz (pD (stpC h l i far))) := by
  obtain ⟨b1, b2⟩ := hi_bx hk (i := i) (by omega)
  obtain ⟨b3, b4⟩ := stpC_bx hk hi hf
  let A : S := .vl false (.fz (ptE (.ch h l)))
  let E (P : S) (y : S) : Env := [A, .vl false (I i), .vl false (I far), P, y]
  let V (P : PP) : S := .vl true (.fz (pD P))
  have ih : ∀ y z, eIx (eFld TF_high "high" (eVar 0)) (eC (.int 0)) (E y z) = .ok (.nw (I h.1)) := fun y z => ix_t 0 (ds := [.int h.1, .int h.2.1, .int h.2.2]) (fld_high (h := h) (l := l) rfl) rfl
  have s1 : sSet 3 false (eCall M_rising (aCons (eFld TF_high "high" (eVar 0)) (aCons (eC (.int 1)) (aCons (eOp gMulA (eVar 1) (eIx (eFld TF_high "high" (eVar 0)) (eC (.int 0)))) aNil)))) (E .un .un) = .nx (E (V (risR h 1 (i * h.1))) .un) :=
    set_go (x := .nw (.fz (pD (risR h 1 (i * h.1))))) (call3 (x := .nw (.fz (t3 h))) (y := .nw (I 1)) (z := .nw (I (i * h.1))) (fld_high (h := h) (l := l) rfl) (eC_ev _) (e_mul (a := i) 10 10 rfl (ih _ _) (by omega) (by unfold okCh at hk; omega)) (rising_ok hk.lo.2.2.lt (by omega) (by omega) (by omega))) rfl (by simp [E])
  have st : ∀ (P : PP) (a m : Nat) (f : T3), okLo f → Bx P a a m → a ≤ 18 → m ≤ 828 → 0 < m → sSet 3 false (eCall M_pair_times (aCons (eVar 3) (aCons (eCall M_rising (aCons (eVar 4) (aCons (eOp gAddA (eOp gMulA (eVar 1) (eIx (eVar 4) (eC (.int 0)))) (eC (.int 1))) (aCons (eB gMax2 (aCons (eC (.int 0)) (aCons (eOp gMulA (eVar 2) (eIx (eVar 4) (eC (.int 0)))) aNil))) aNil)))) aNil))) (E (V P) (.vl true (.fz (t3 f)))) = .nx (E (V (timesP P (riS f i far))) (.vl true (.fz (t3 f)))) := fun P a m f hl bx ha hm h0 => by
    obtain ⟨a1, a2, a3, a4, a5⟩ := riS_n hl hi hf
    have i0 : eIx (eVar 4) (eC (.int 0)) (E (V P) (.vl true (.fz (t3 f)))) = .ok (.nw (I f.1)) := ix_t 0 (ds := [.int f.1, .int f.2.1, .int f.2.2]) rfl rfl
    have f10 : f.1.natAbs < 2 ^ 10 := by unfold okLo at hl; omega
    refine set_go (x := .nw (pO (timesP P (riS f i far)))) (call2 (x := .nw (.fz (pD P))) (y := .nw (.fz (pD (riS f i far)))) rfl (call3 (x := .nw (.fz (t3 f))) (y := .nw (I (i * f.1 + 1))) (z := .nw (I (mx0 (far * f.1)))) rfl (e_add (e_mul (a := i) 10 10 rfl i0 (by omega) f10) (eC_ev _)) (max0_ev (e_mul (a := far) 10 10 rfl i0 (by omega) f10)) (rising_ok hl.lt (by omega) (by omega) (by omega))) (times_ok (.inr rfl) (.inr rfl) bx (riS_bx hl hi hf) ?_ h0 (by omega) (by omega))) rfl (by simp [E])
    have : (a + 12 + 1) * (a + 12 + 1) ≤ 31 * 31 := Nat.mul_le_mul (by omega) (by omega)
    omega
  show runF 5 B_Choose_step _ = _
  unfold B_Choose_step
  refine run_ret (seq_go (r' := E (V (risR h 1 (i * h.1))) .un) s1 (seq_go (r' := E (V (stpC h l i far)) (.vl true (.fz (t3 (dif3 h l))))) (for_go (iLst_ds (fld_lows (h := h) (l := l) rfl)) (forL_two (r1 := E (V (risR h 1 (i * h.1))) (.vl true (.fz (t3 l)))) (r2 := E (V (timesP (risR h 1 (i * h.1)) (riS l i far))) (.vl true (.fz (t3 l)))) (r3 := E (V (timesP (risR h 1 (i * h.1)) (riS l i far))) (.vl true (.fz (t3 (dif3 h l))))) rfl (st _ 6 265 l hk.lo.1 b2 (by omega) (by omega) (by omega)) rfl (st _ 18 828 (dif3 h l) hk.lo.2.1 b3 (by omega) (by omega) (by omega)))) rfl))
theorem rlows_ok {h l : T3} (hk : okCh h l) {far : Int} (hf : 0 ≤ far ∧ far ≤ 2) : M_Choose_raised_lows [.fz (ptE (.ch h l)), I far] = .ok (.ls [.fz (t3 (rl far l)), .fz (t3 (rl far (dif3 h l)))]) := by
  show runF 3 B_Choose_raised_lows _ = _
  unfold B_Choose_raised_lows
  refine run_ret (ret_go ?_)
  show _ = Res.ok (DL.R.nw (.ls ([l, dif3 h l].map fun f => .fz (t3 (rl far f)))))
  refine lcD_map (g := fun f : T3 => .nw (.fz (t3 f))) ?_ (by simp [startE]) (fun f hm => ⟨[.vl false (.fz (ptE (.ch h l))), .vl false (I far), .vl true (.fz (t3 f))], by simp [wipeE, startE], ?_⟩) (by simp)
  · exact iLst_ds (fld_lows (h := h) (l := l) rfl)
  · have e0 : eIx (eVar 2) (eC (.int 0)) [.vl false (.fz (ptE (.ch h l))), .vl false (I far), .vl true (.fz (t3 f))] = .ok (.nw (I f.1)) := ix_t 0 (ds := [.int f.1, .int f.2.1, .int f.2.2]) rfl rfl
    have hl : okLo f := by
      simp only [List.mem_cons, List.not_mem_nil, or_false] at hm
      rcases hm with rfl | rfl
      · exact hk.lo.1
      · exact hk.lo.2.1
    have hb := mx0_b (a := f.1) (by unfold okLo at hl; omega)
    exact e_t3 e0 (ix_t 1 (f := eVar 2) (ds := [.int f.1, .int f.2.1, .int f.2.2]) rfl rfl) (e_add (ix_t 2 (f := eVar 2) (ds := [.int f.1, .int f.2.1, .int f.2.2]) rfl rfl) (e_mul (a := far) 10 10 rfl (max0_ev e0) (by omega) (by omega)))
theorem rl_its {h l : T3} (hk : okCh h l) {far : Int} (hf : 0 ≤ far ∧ far ≤ 2) {i : Nat} {r : Env} (h0 : r[0]? = some (.vl false (.fz (ptE (.ch h l))))) (h1 : eVar i r = .ok (.nw (I far))) : iLst (eMeth [("Choose", M_Choose_raised_lows)] "raised_lows" (eVar 0) (aCons (eVar i) aNil)) r = .ok [.nw (.fz (t3 (rl far l))), .nw (.fz (t3 (rl far (dif3 h l))))] := by
  have e0 : eVar 0 r = .ok (.nw (.fz (ptE (.ch h l)))) := by unfold eVar; rw [h0]; rfl
  have em := meth_ok (tab := [("Choose", M_Choose_raised_lows)]) (m := "raised_lows") (fs := aCons (eVar i) aNil) e0 (cls_pt (.ch h l)) (by decide) rfl (by simp only [aCons_ev, h1, res_ok, aNil_ev]; rfl) (rlows_ok hk hf)
  rw [iLst, em]; rfl
theorem cup_ok {h l : T3} (hk : okCh h l) {far : Int} (hf : 0 ≤ far ∧ far ≤ 2) : M_Choose_up [.fz (ptE (.ch h l)), I far] = .ok (.fz (pD (upC h l far))) := by
  obtain ⟨b1, b3, b4⟩ := upC_bx hk hf
  let A : S := .vl false (.fz (ptE (.ch h l)))
  let E (P : S) (y : S) : Env := [A, .vl false (I far), P, y]
  let V (P : PP) : S := .vl true (.fz (pD P))
  have s1 : sSet 2 false (eCall M_rising (aCons (eFld TF_high "high" (eVar 0)) (aCons (eC (.int 1)) (aCons (eIx (eFld TF_high "high" (eVar 0)) (eC (.int 1))) aNil)))) (E .un .un) = .nx (E (V (risR h 1 h.2.1)) .un) :=
    set_go (x := .nw (.fz (pD (risR h 1 h.2.1)))) (call3 (x := .nw (.fz (t3 h))) (y := .nw (I 1)) (z := .nw (I h.2.1)) (fld_high (h := h) (l := l) rfl) (eC_ev _) (ix_t 1 (ds := [.int h.1, .int h.2.1, .int h.2.2]) (fld_high (h := h) (l := l) rfl) rfl) (rising_ok hk.lo.2.2.lt (by omega) (by unfold okCh at hk; omega) (by unfold okCh at hk; omega))) rfl (by simp [E])
  have st : ∀ (P : PP) (a m : Nat) (f : T3), okLo f → Bx P a a m → a ≤ 18 → m ≤ 828 → 0 < m → sSet 2 false (eCall M_pair_times (aCons (eVar 2) (aCons (eCall M_rising (aCons (eVar 3) (aCons (eOp gAddA (eIx (eVar 3) (eC (.int 1))) (eC (.int 1))) (aCons (eC (.int 0)) aNil)))) aNil))) (E (V P) (.vl true (.fz (t3 (rl far f))))) = .nx (E (V (timesP P (upR f far))) (.vl true (.fz (t3 (rl far f))))) := fun P a m f hl bx ha hm h0 => by
    have i1 : eIx (eVar 3) (eC (.int 1)) (E (V P) (.vl true (.fz (t3 (rl far f))))) = .ok (.nw (I f.2.1)) := ix_t 1 (ds := [.int f.1, .int f.2.1, .int (rl far f).2.2]) rfl rfl
    have hl' := hl
    unfold okLo at hl'
    refine set_go (x := .nw (pO (timesP P (upR f far)))) (call2 (x := .nw (.fz (pD P))) (y := .nw (.fz (pD (upR f far)))) rfl (call3 (x := .nw (.fz (t3 (rl far f)))) (y := .nw (I (f.2.1 + 1))) (z := .nw (I 0)) rfl (e_add i1 (eC_ev _)) (eC_ev _) (rising_ok (hl.rlt hf) (by omega) (by omega) (by omega))) (times_ok (.inr rfl) (.inr rfl) bx (upR_bx hl hf) ?_ h0 (by omega) (by omega))) rfl (by simp [E])
    have : (a + 12 + 1) * (a + 12 + 1) ≤ 31 * 31 := Nat.mul_le_mul (by omega) (by omega)
    omega
  show runF 4 B_Choose_up _ = _
  unfold B_Choose_up
  exact run_ret (seq_go (r' := E (V (risR h 1 h.2.1)) .un) s1 (seq_go (r' := E (V (upC h l far)) (.vl true (.fz (t3 (rl far (dif3 h l)))))) (for_go (rl_its hk hf rfl rfl) (forL_two (r1 := E (V (risR h 1 h.2.1)) (.vl true (.fz (t3 (rl far l))))) (r2 := E (V (timesP (risR h 1 h.2.1) (upR l far))) (.vl true (.fz (t3 (rl far l))))) (r3 := E (V (timesP (risR h 1 h.2.1) (upR l far))) (.vl true (.fz (t3 (rl far (dif3 h l)))))) rfl (st _ 6 265 l hk.lo.1 b1 (by omega) (by omega) (by omega)) rfl (st _ 18 828 (dif3 h l) hk.lo.2.1 b3 (by omega) (by omega) (by omega)))) rfl))
theorem cdown_ok {h l : T3} (hk : okCh h l) {far : Int} (hf : 0 ≤ far ∧ far ≤ 2) : M_Choose_down [.fz (ptE (.ch h l)), I far] = .ok (.fz (pD (dnC h l far))) := by
  obtain ⟨b3, b4⟩ := dnC_bx hk hf
  let A : S := .vl false (.fz (ptE (.ch h l)))
  let E (P : S) (y : S) : Env := [A, .vl false (I far), P, y]
  let V (P : PP) : S := .vl true (.fz (pD P))
  have st : ∀ (P : PP) (a m : Nat) (f : T3), okLo f → Bx P a a m → a ≤ 18 → m ≤ 828 → 0 < m → sSet 2 false (eCall M_pair_times (aCons (eVar 2) (aCons (eCall M_rising (aCons (eVar 3) (aCons (eC (.int 1)) (aCons (eIx (eVar 3) (eC (.int 1))) aNil)))) aNil))) (E (V P) (.vl true (.fz (t3 (rl far f))))) = .nx (E (V (timesP P (dnR f far))) (.vl true (.fz (t3 (rl far f))))) := fun P a m f hl bx ha hm h0 => by
    have i1 : eIx (eVar 3) (eC (.int 1)) (E (V P) (.vl true (.fz (t3 (rl far f))))) = .ok (.nw (I f.2.1)) := ix_t 1 (ds := [.int f.1, .int f.2.1, .int (rl far f).2.2]) rfl rfl
    have hl' := hl
    unfold okLo at hl'
    refine set_go (x := .nw (pO (timesP P (dnR f far)))) (call2 (x := .nw (.fz (pD P))) (y := .nw (.fz (pD (dnR f far)))) rfl (call3 (x := .nw (.fz (t3 (rl far f)))) (y := .nw (I 1)) (z := .nw (I f.2.1)) rfl (eC_ev _) i1 (rising_ok (hl.rlt hf) (by omega) (by omega) (by omega))) (times_ok (.inr rfl) (.inr rfl) bx (dnR_bx hl hf) ?_ h0 (by omega) (by omega))) rfl (by simp [E])
    have : (a + 12 + 1) * (a + 12 + 1) ≤ 31 * 31 := Nat.mul_le_mul (by omega) (by omega)
    omega
  show runF 4 B_Choose_down _ = _
  unfold B_Choose_down
  exact run_ret (seq_go (r' := E (V oneP) .un) (set_go (x := .nw (pO oneP)) (one_ev _) rfl (by simp [startE])) (seq_go (r' := E (V (dnC h l far)) (.vl true (.fz (t3 (rl far (dif3 h l)))))) (for_go (rl_its hk hf rfl rfl) (forL_two (r1 := E (V oneP) (.vl true (.fz (t3 (rl far l))))) (r2 := E (V (timesP oneP (dnR l far))) (.vl true (.fz (t3 (rl far l))))) (r3 := E (V (timesP oneP (dnR l far))) (.vl true (.fz (t3 (rl far (dif3 h l)))))) rfl (st _ 0 1 l hk.lo.1 one_bx (by omega) (by omega) (by omega)) rfl (st _ 12 564 (dif3 h l) hk.lo.2.1 b3 (by omega) (by omega) (by omega)))) rfl))
theorem aug_mul {i : Nat} {f : FE} {r : Env} {a b : Int} {w : Bool} (m n : Nat) (h : r[i]? = some (.vl w (I a))) (h2 : f r = .ok (.nw (I b))) (ha : a.natAbs < 2 ^ m) (hb : b.natAbs < 2 ^ n) (h0 : 0 < m := by omega) (h1 : 0 < n := by omega) (h3 : m + n ≤ 1000000 := by omega) : sAug i gMul f r = .nx (r.set i (VI (a * b))) := by
  have hi : i < r.length := (List.getElem?_eq_some_iff.mp h).1
  have hm : gMul (I a) (I b) = .ok (.nw (I (a * b))) := by
    have := gMul_lt (i := a) (j := b) m n ha hb h0 h1 (Nat.le_trans h3 (by omega))
    exact this
  simp only [sAug, h, sUse_ev, h2, ra_nw, er_fz, hm, put_nwF, setS_ev, if_pos hi]
theorem pow_lt (x : Int) (m : Nat) (hx : x.natAbs < 2 ^ m) : ∀ k : Nat, (x ^ k).natAbs < 2 ^ (m * k + 1)
  | 0 => by simp
  | k + 1 => by
    rw [Int.pow_succ]
    exact natAbs_mul_lt (pow_lt x m hx k) hx (by rw [Nat.mul_add]; omega)
theorem raised_ok {p : Int × Int} {k : Nat} (hk : k ≤ 1000) (h1 : p.1.natAbs < 2 ^ 70) (h2 : p.2.natAbs < 2 ^ 70) : M_raised [.fz (fD p), I k] = .ok (.fz (fD (p.1 ^ k, p.2 ^ k))) := by
  have e := rng_ok (fs := aCons (eVar 1) aNil) (r := [.vl false (.fz (fD p)), .vl false (I k), VI 1, VI 1, .un]) (n := k) rfl (by omega)
  obtain ⟨r', e2, y, hr⟩ := forL_inv (fg := gN 4) (F := sSeq (sAug 2 gMul (eIx (eVar 0) (eC (.int 0)))) (sAug 3 gMul (eIx (eVar 0) (eC (.int 1))))) (its := (List.range k).map fun (j : Nat) => intR (j : Int)) (r := [.vl false (.fz (fD p)), .vl false (I k), VI 1, VI 1, .un])
    (fun i r => ∃ y : S, r = [.vl false (.fz (fD p)), .vl false (I k), VI (p.1 ^ i), VI (p.2 ^ i), y]) ⟨.un, by simp⟩ (fun i y r hy ⟨z, hr⟩ => by
      subst hr
      obtain ⟨hi, rfl⟩ : i < k ∧ y = intR (i : Int) := by
        rw [List.getElem?_map] at hy
        cases hj : (List.range k)[i]? with
        | none => rw [hj] at hy; cases hy
        | some j =>
          rw [hj] at hy
          obtain ⟨h1, h2⟩ := List.getElem?_eq_some_iff.mp hj
          simp at h1 h2
          subst h2
          exact ⟨by omega, (Option.some.inj hy).symm⟩
      have a1 := aug_mul (i := 2) (f := eIx (eVar 0) (eC (.int 0))) (r := [.vl false (.fz (fD p)), .vl false (I k), VI (p.1 ^ i), VI (p.2 ^ i), VI (i : Int)]) (a := p.1 ^ i) (b := p.1) (w := true) (70 * i + 1) 70 rfl (ix_t 0 rfl rfl) (pow_lt _ 70 h1 i) h1
      have a2 := aug_mul (i := 3) (f := eIx (eVar 0) (eC (.int 1))) (r := [.vl false (.fz (fD p)), .vl false (I k), VI (p.1 ^ i * p.1), VI (p.2 ^ i), VI (i : Int)]) (a := p.2 ^ i) (b := p.2) (w := true) (70 * i + 1) 70 rfl (ix_t 1 rfl rfl) (pow_lt _ 70 h2 i) h2
      refine ⟨[.vl false (.fz (fD p)), .vl false (I k), VI (p.1 ^ i), VI (p.2 ^ i), VI (i : Int)], _, by simp [intR], seq_go a1 a2, VI (i : Int), by simp [Int.pow_succ]⟩)
  rw [List.length_map, List.length_range] at hr
  show runF 5 B_raised _ = _
  unfold B_raised
  refine run_ret (seq_go (r' := [.vl false (.fz (fD p)), .vl false (I k), VI 1, .un, .un]) (set_go (eC_ev _) rfl (by simp [startE])) (seq_go (r' := [.vl false (.fz (fD p)), .vl false (I k), VI 1, VI 1, .un]) (set_go (eC_ev _) rfl (by simp)) (seq_go (for_go e e2) (ret_go ?_))))
  rw [hr]; rfl
theorem one_part (n : Nat) (os : List O) (B : FS) (hB : B = sRet (eDspT (((eTup (aCons (eC (.int 0)) (aCons (eC (.int 0)) aNil))), (eC (.int 1))) :: []))) : runF n B os = .ok (pO oneP) := by
  subst hB
  exact run_ret (ret_go (one_ev _))
theorem fr_b {f : Int × Int} (h : okFr f) : f.1.natAbs < 2 ^ 70 ∧ f.2.natAbs < 2 ^ 70 ∧ f.1 ≠ 0 ∧ f.2 ≠ 0 := by
  unfold okFr at h
  exact ⟨h.2.1, by omega, h.1, by omega⟩
theorem num_bx {v : Int} {m : Nat} (h0 : v ≠ 0) (hm : v.natAbs < 2 ^ m) : Bx [((0, 0), v)] 0 0 m := ⟨⟨by show ([((0, 0) : PK)]).Nodup; decide, fun x hx => by
  have : x = ((0, 0), v) := by simpa using hx
  rw [this]; exact h0⟩, fun x hx => by
  have : x = ((0, 0), v) := by simpa using hx
  rw [this]; dsimp only; omega, fun x hx => by
  have : x = ((0, 0), v) := by simpa using hx
  rw [this]; exact hm⟩
theorem stp_bx {p : Pt} (hp : okPt p) {i far : Int} (hi : 0 ≤ i ∧ i ≤ far) (hf : far ≤ 2) : Bx (stpPt p i far) 30 30 1400 := by
  cases p with
  | ch h l => exact (stpC_bx hp hi hf).2
  | wt f =>
    have h3 := mul3 (i := i) (a := f.1) (by omega)
    refine (form_bx (m := 202) ?_).up (by omega) (by omega) (by omega)
    obtain ⟨q1, q2, q3⟩ := hp
    exact ⟨lt_up q1 (by omega), lt_up q2 (by omega), by dsimp only; omega⟩
  | pw f => exact one_bx.up (by omega) (by omega) (by omega)
  | gr f =>
    obtain ⟨q1, q2, q3, q4⟩ := fr_b hp
    refine (num_bx (m := 1400) ?_ ?_).up (by omega) (by omega) (by omega)
    · exact Int.mul_ne_zero (Int.pow_ne_zero q3) (Int.pow_ne_zero q4)
    · exact natAbs_mul_lt (pow_lt _ 70 q1 _) (pow_lt _ 70 q2 _) (by omega)
theorem up_bx {p : Pt} (hp : okPt p) {far : Int} (hf : 0 ≤ far ∧ far ≤ 2) : Bx (upPt p far) 30 30 1400 := by
  cases p with
  | ch h l => exact (upC_bx hp hf).2.2
  | wt f => exact one_bx.up (by omega) (by omega) (by omega)
  | pw f => exact (num_bx (fr_b hp).2.2.1 (fr_b hp).1).up (by omega) (by omega) (by omega)
  | gr f => exact one_bx.up (by omega) (by omega) (by omega)
theorem dn_bx {p : Pt} (hp : okPt p) {far : Int} (hf : 0 ≤ far ∧ far ≤ 2) : Bx (dnPt p far) 30 30 1400 := by
  cases p with
  | ch h l => exact (dnC_bx hp hf).2
  | wt f => exact one_bx.up (by omega) (by omega) (by omega)
  | pw f => exact (num_bx (fr_b hp).2.2.2 (fr_b hp).2.1).up (by omega) (by omega) (by omega)
  | gr f => exact one_bx.up (by omega) (by omega) (by omega)
theorem step_cls {p : Pt} (hp : okPt p) {i far : Int} (hi : 0 ≤ i ∧ i ≤ far) (hf : far ≤ 2) : ∃ M o, List.lookup (clPt p).1 [("Choose", M_Choose_step), ("Weight", M_Weight_step), ("Power", M_Part_step), ("Growth", M_Growth_step)] = some M ∧ M [.fz (ptE p), I i, I far] = .ok o ∧ IsQ o (stpPt p i far) := by
  cases p with
  | ch h l => exact ⟨M_Choose_step, _, rfl, cstep_ok hp hi hf, .inr rfl⟩
  | wt f =>
    refine ⟨M_Weight_step, _, rfl, ?_, .inl rfl⟩
    have h3 := mul3 (i := i) (a := f.1) (by omega)
    obtain ⟨q1, q2, q3⟩ := hp
    have ff := fld_form (i := 0) (r := startE 3 [.fz (ptE (.wt f)), I i, I far]) (f := f) rfl
    have i0 : eIx (eFld TF_form "form" (eVar 0)) (eC (.int 0)) (startE 3 [.fz (ptE (.wt f)), I i, I far]) = .ok (.nw (I f.1)) := ix_t 0 (ds := [.int f.1, .int f.2.1, .int f.2.2]) ff rfl
    have i1 : eIx (eFld TF_form "form" (eVar 0)) (eC (.int 1)) (startE 3 [.fz (ptE (.wt f)), I i, I far]) = .ok (.nw (I f.2.1)) := ix_t 1 (ds := [.int f.1, .int f.2.1, .int f.2.2]) ff rfl
    have i2 : eIx (eFld TF_form "form" (eVar 0)) (eC (.int 2)) (startE 3 [.fz (ptE (.wt f)), I i, I far]) = .ok (.nw (I f.2.2)) := ix_t 2 (ds := [.int f.1, .int f.2.1, .int f.2.2]) ff rfl
    show runF 3 B_Weight_step _ = _
    unfold B_Weight_step
    exact run_ret (ret_go (call1 (e_t3 i0 i1 (e_add i2 (e_mul (a := i) 10 200 rfl i0 (by omega) q1))) (pform_ok _)))
  | pw f => exact ⟨M_Part_step, _, rfl, one_part 3 _ B_Part_step rfl, .inl rfl⟩
  | gr f =>
    refine ⟨M_Growth_step, _, rfl, ?_, .inl rfl⟩
    obtain ⟨q1, q2, q3, q4⟩ := fr_b hp
    have ff := fld_frac (i := 0) (r := startE 3 [.fz (ptE (.gr f)), I i, I far]) (f := f) (p := .gr f) (.inr rfl) rfl
    have c1 : eCall M_raised (aCons (eFld TF_fraction "fraction" (eVar 0)) (aCons (eVar 1) aNil)) (startE 3 [.fz (ptE (.gr f)), I i, I far]) = .ok (.nw (.fz (fD (f.1 ^ i.toNat, f.2 ^ i.toNat)))) := call2 (y := .nw (I i)) ff rfl (by
      have := raised_ok (p := f) (k := i.toNat) (by omega) q1 q2
      rw [Int.toNat_of_nonneg hi.1] at this
      exact this)
    have c2 : eCall M_raised (aCons (eFld TF_fraction "fraction" (eVar 0)) (aCons (eOp gSub (eVar 2) (eVar 1)) aNil)) (startE 3 [.fz (ptE (.gr f)), I i, I far]) = .ok (.nw (.fz (fD (f.1 ^ (far - i).toNat, f.2 ^ (far - i).toNat)))) := call2 (y := .nw (I (far - i))) ff (e_sub (a := far) (b := i) rfl rfl) (by
      have := raised_ok (p := f) (k := (far - i).toNat) (by omega) q1 q2
      rw [Int.toNat_of_nonneg (by omega)] at this
      exact this)
    show runF 3 B_Growth_step _ = _
    unfold B_Growth_step
    exact run_ret (ret_go (num_ev (e_mul (70 * i.toNat + 1) (70 * (far - i).toNat + 1) (e_tup0 c1) (e_tup1 c2) (pow_lt _ 70 q1 _) (pow_lt _ 70 q2 _))))
theorem up_cls {p : Pt} (hp : okPt p) {far : Int} (hf : 0 ≤ far ∧ far ≤ 2) : ∃ M o, List.lookup (clPt p).1 [("Choose", M_Choose_up), ("Weight", M_Part_up), ("Power", M_Power_up), ("Growth", M_Part_up)] = some M ∧ M [.fz (ptE p), I far] = .ok o ∧ IsQ o (upPt p far) := by
  cases p with
  | ch h l => exact ⟨M_Choose_up, _, rfl, cup_ok hp hf, .inr rfl⟩
  | wt f => exact ⟨M_Part_up, _, rfl, one_part 2 _ B_Part_up rfl, .inl rfl⟩
  | pw f =>
    refine ⟨M_Power_up, _, rfl, ?_, .inl rfl⟩
    have ff := fld_frac (i := 0) (r := startE 2 [.fz (ptE (.pw f)), I far]) (f := f) (p := .pw f) (.inl rfl) rfl
    show runF 2 B_Power_up _ = _
    unfold B_Power_up
    exact run_ret (ret_go (num_ev (e_tup0 (a := f.1) (b := f.2) ff)))
  | gr f => exact ⟨M_Part_up, _, rfl, one_part 2 _ B_Part_up rfl, .inl rfl⟩
theorem down_cls {p : Pt} (hp : okPt p) {far : Int} (hf : 0 ≤ far ∧ far ≤ 2) : ∃ M o, List.lookup (clPt p).1 [("Choose", M_Choose_down), ("Weight", M_Part_down), ("Power", M_Power_down), ("Growth", M_Part_down)] = some M ∧ M [.fz (ptE p), I far] = .ok o ∧ IsQ o (dnPt p far) := by
  cases p with
  | ch h l => exact ⟨M_Choose_down, _, rfl, cdown_ok hp hf, .inr rfl⟩
  | wt f => exact ⟨M_Part_down, _, rfl, one_part 2 _ B_Part_down rfl, .inl rfl⟩
  | pw f =>
    refine ⟨M_Power_down, _, rfl, ?_, .inl rfl⟩
    have ff := fld_frac (i := 0) (r := startE 2 [.fz (ptE (.pw f)), I far]) (f := f) (p := .pw f) (.inl rfl) rfl
    show runF 2 B_Power_down _ = _
    unfold B_Power_down
    exact run_ret (ret_go (num_ev (e_tup1 (a := f.1) (b := f.2) ff)))
  | gr f => exact ⟨M_Part_down, _, rfl, one_part 2 _ B_Part_down rfl, .inl rfl⟩
def foP (g : Pt → PP) (P : PP) (ps : List Pt) : PP := ps.foldl (fun P p => timesP P (g p)) P
abbrev foF (g : Pt → PP) (ps : List Pt) : PP := foP g oneP ps
theorem foF_snoc (g : Pt → PP) (ps : List Pt) (p : Pt) : foF g (ps ++ [p]) = timesP (foF g ps) (g p) := by
  unfold foF foP
  rw [List.foldl_append]; rfl
theorem foP_bx {g : Pt → PP} : ∀ (ps : List Pt) {P : PP} {a m : Nat}, (∀ p ∈ ps, Bx (g p) 30 30 1400) → Bx P a a m → a + 30 * ps.length ≤ 200 → Bx (foP g P ps) (a + 30 * ps.length) (a + 30 * ps.length) (m + 1434 * ps.length)
  | [], P, a, m, _, h, _ => h
  | p :: ps, P, a, m, hg, h, hl => by
    rw [List.length_cons] at hl
    have h1 := times_bx h (hg p List.mem_cons_self) (by
      have : (a + 30 + 1) * (a + 30 + 1) ≤ 201 * 201 := Nat.mul_le_mul (by omega) (by omega)
      omega)
    have h2 := foP_bx ps (fun q hq => hg q (List.mem_cons_of_mem _ hq)) h1 (by omega)
    rw [List.length_cons]
    exact h2.up (by omega) (by omega) (by omega)
theorem foF_bx {g : Pt → PP} {ps : List Pt} (hg : ∀ p ∈ ps, Bx (g p) 30 30 1400) (hl : ps.length ≤ 6) : Bx (foF g ps) (30 * ps.length) (30 * ps.length) (1 + 1434 * ps.length) := by
  have := foP_bx ps hg one_bx (by omega)
  rw [Nat.zero_add] at this
  exact this
theorem foF_times {o1 o2 : O} {g : Pt → PP} {ps : List Pt} {p : Pt} (hg : ∀ q ∈ ps, Bx (g q) 30 30 1400) (hp : Bx (g p) 30 30 1400) (hl : ps.length < 6) (h1 : IsQ o1 (foF g ps)) (h2 : IsQ o2 (g p)) : M_pair_times [o1, o2] = .ok (pO (foF g (ps ++ [p]))) := by
  rw [foF_snoc]
  refine times_ok h1 h2 (foF_bx hg (by omega)) hp ?_ (by omega) (by omega) (by omega)
  have : (30 * ps.length + 30 + 1) * (30 * ps.length + 30 + 1) ≤ 201 * 201 := Nat.mul_le_mul (by omega) (by omega)
  omega
theorem fzsOf_fz (ds : List D) : fzsOf (ds.map fun d => DL.R.nw (.fz d)) = some ds := by
  induction ds with
  | nil => rfl
  | cons d ds ih =>
    rw [List.map_cons]
    simp only [fzsOf]
    rw [ih]; rfl
theorem enum_range {f : FE} {r : Env} {n : Nat} {g : Nat → D} (h : f r = .ok (.nw (.fz (.lst ((List.range n).map g))))) : iEnumD f r = .ok ((List.range n).map fun i => tup2 (.int (i : Nat)) (g i)) := by
  have e : itsL (.nw (.fz (.lst ((List.range n).map g)))) = .ok (((List.range n).map g).map fun d => .nw (.fz d)) := by simp [itsL]
  simp only [iEnumD, h, res_ok, e, enumR, fzsOf_fz, enumL]
  congr 1
  refine List.ext_getElem (by simp) fun i h1 h2 => ?_
  simp
def frD (ps : List Pt) (far : Nat) : D := .tup [.lst ((List.range (far + 1)).map fun (i : Nat) => pD (foF (fun p => stpPt p i far) ps)), pD (foF (fun p => upPt p far) ps), pD (foF (fun p => dnPt p far) ps)]
theorem forL_spl {β : Type} {fg : FG} {F : FS} {g : β → R} {P : List β → Env → Prop} : ∀ (xs done : List β) (r : Env), P done r → (∀ (d : List β) (x : β) (e : List β) (r : Env), d ++ x :: e = done ++ xs → P d r → ∃ r1 r', fg (g x) r = some r1 ∧ F r1 = .nx r' ∧ P (d ++ [x]) r') → ∃ r', forL fg F (xs.map g) r = .nx r' ∧ P (done ++ xs) r'
  | [], done, r, h, _ => ⟨r, rfl, by simpa using h⟩
  | x :: xs, done, r, h, hs => by
    obtain ⟨r1, r2, e1, e2, p2⟩ := hs done x xs r rfl h
    obtain ⟨r3, e3, p3⟩ := forL_spl xs (done ++ [x]) r2 p2 fun d y e r hy => hs d y e r (by simpa using hy)
    exact ⟨r3, by rw [List.map_cons, forL_cons e1 e2]; exact e3, by simpa using p3⟩
theorem frame_ok {ps : List Pt} (hp : ∀ p ∈ ps, okPt p) (hl : ps.length ≤ 6) {far : Nat} (hf : far ≤ 2) : M_Term_frame [.fz (tmE ps), I far] = .ok (.fz (frD ps far)) := by
  let U (g : Pt → PP) (d : List Pt) : S := .vl true (.fz (pD (foF g d)))
  let L (d : List Pt) : D := .lst ((List.range (far + 1)).map fun (i : Nat) => pD (foF (fun p => stpPt p i far) d))
  let E (d : List Pt) (y : S) : Env := [.vl false (.fz (tmE ps)), .vl false (I far), .vl true (.fz (L d)), U (fun p => upPt p far) d, U (fun p => dnPt p far) d, y, .un, .un]
  have hmade : iLst (eFld TF_made "made" (eVar 0)) (E [] .un) = .ok (ps.map fun p => .nw (.fz (ptE p))) := by
    have e : eFld TF_made "made" (eVar 0) (E [] .un) = .ok (.nw (.fz (.lst (ps.map ptE)))) := by
      show (Res.ok (see false (.fz (tmE ps)))).bind (fldR TF_made "made") = _
      rw [res_ok, see_fz]
      simp [fldR, tmE, TF_made, List.lookup]
    rw [iLst_ds e, List.map_map]; rfl
  have step : ∀ (d : List Pt) (p : Pt) (e : List Pt) (r : Env), d ++ p :: e = [] ++ ps → (∃ y, r = E d y) → ∃ r1 r', gN 5 (.nw (.fz (ptE p))) r = some r1 ∧ (sSeq (sSet 2 false (eLcD (iEnumD (eVar 2)) (gT [(gN 6), (gN 7)]) [6, 7] tYesD (eCall M_pair_times (aCons (eVar 7) (aCons (eMeth [("Choose", M_Choose_step), ("Weight", M_Weight_step), ("Power", M_Part_step), ("Growth", M_Growth_step)] "step" (eVar 5) (aCons (eVar 6) (aCons (eVar 1) aNil))) aNil))))) (sSeq (sSet 3 false (eCall M_pair_times (aCons (eVar 3) (aCons (eMeth [("Choose", M_Choose_up), ("Weight", M_Part_up), ("Power", M_Power_up), ("Growth", M_Part_up)] "up" (eVar 5) (aCons (eVar 1) aNil)) aNil)))) (sSet 4 false (eCall M_pair_times (aCons (eVar 4) (aCons (eMeth [("Choose", M_Choose_down), ("Weight", M_Part_down), ("Power", M_Power_down), ("Growth", M_Part_down)] "down" (eVar 5) (aCons (eVar 1) aNil)) aNil)))))) r1 = .nx r' ∧ (∃ y, r' = E (d ++ [p]) y) := by
    intro d p e r he ⟨y, hr⟩
    subst hr
    rw [List.nil_append] at he
    have hpm : p ∈ ps := by rw [← he]; simp
    have hd : ∀ q ∈ d, okPt q := fun q hq => hp q (by rw [← he]; exact List.mem_append.mpr (.inl hq))
    have hpo : okPt p := hp p hpm
    have hdl : d.length < 6 := by
      have := congrArg List.length he
      rw [List.length_append, List.length_cons] at this
      omega
    have f2 : (0 : Int) ≤ (far : Int) ∧ (far : Int) ≤ 2 := by omega
    let P1 : S := .vl true (.fz (ptE p))
    have s1 : sSet 2 false (eLcD (iEnumD (eVar 2)) (gT [(gN 6), (gN 7)]) [6, 7] tYesD (eCall M_pair_times (aCons (eVar 7) (aCons (eMeth [("Choose", M_Choose_step), ("Weight", M_Weight_step), ("Power", M_Part_step), ("Growth", M_Growth_step)] "step" (eVar 5) (aCons (eVar 6) (aCons (eVar 1) aNil))) aNil)))) (E d P1) = .nx ((E d P1).set 2 (.vl true (.fz (L (d ++ [p]))))) := by
      refine set_go (x := .nw (.ls ((List.range (far + 1)).map fun (i : Nat) => pO (foF (fun p => stpPt p i far) (d ++ [p]))))) ?_ ?_ (by simp [E])
      · refine lcD_map (g := fun (i : Nat) => tup2 (.int (i : Nat)) (pD (foF (fun p => stpPt p i far) d))) (enum_range rfl) (by simp [E]) (fun i hi => ⟨[.vl false (.fz (tmE ps)), .vl false (I far), .vl true (.fz (L d)), U (fun p => upPt p far) d, U (fun p => dnPt p far) d, P1, VI (i : Int), .vl true (.fz (pD (foF (fun p => stpPt p i far) d)))], by simp [wipeE, E, tup2, gT, gL], ?_⟩) (by simp; omega)
        have hi2 : i ≤ far := by have := List.mem_range.mp hi; omega
        obtain ⟨M, o, hM, eM, q⟩ := step_cls hpo (i := (i : Int)) (far := (far : Int)) (by omega) (by omega)
        refine call2 (x := .nw (.fz (pD (foF (fun p => stpPt p i far) d)))) (y := .nw o) rfl (meth_ok (x := .nw (.fz (ptE p))) (os := [I i, I far]) rfl (cls_pt p) (by cases p <;> simp only [clPt] <;> decide) hM rfl eM) ?_
        refine foF_times (g := fun p => stpPt p i far) (fun q hq => stp_bx (hd q hq) (by omega) (by omega)) (stp_bx hpo (by omega) (by omega)) hdl (.inr rfl) ?_
        rcases q with q | q
        · rw [q]; exact .inr rfl
        · rw [q]; exact .inr rfl
      · have : er (.ls ((List.range (far + 1)).map fun (i : Nat) => pO (foF (fun p => stpPt p i far) (d ++ [p])))) = L (d ++ [p]) := by
          rw [er_ls, ers_eq, List.map_map]; rfl
        show some (S.vl true (.fz (er (.ls ((List.range (far + 1)).map fun (i : Nat) => pO (foF (fun p => stpPt p i far) (d ++ [p]))))))) = _
        rw [this]
    have qo : ∀ {o : O} {P : PP}, IsQ o P → IsQ (DL.R.nw o).a P := fun {o P} q => by
      rcases q with q | q
      · rw [q]; exact .inr rfl
      · rw [q]; exact .inr rfl
    have s2 : sSet 3 false (eCall M_pair_times (aCons (eVar 3) (aCons (eMeth [("Choose", M_Choose_up), ("Weight", M_Part_up), ("Power", M_Power_up), ("Growth", M_Part_up)] "up" (eVar 5) (aCons (eVar 1) aNil)) aNil))) ((E d P1).set 2 (.vl true (.fz (L (d ++ [p]))))) = .nx (((E d P1).set 2 (.vl true (.fz (L (d ++ [p]))))).set 3 (U (fun p => upPt p far) (d ++ [p]))) := by
      obtain ⟨M, o, hM, eM, q⟩ := up_cls hpo f2
      exact set_go (x := .nw (pO (foF (fun p => upPt p far) (d ++ [p])))) (call2 (x := .nw (.fz (pD (foF (fun p => upPt p far) d)))) (y := .nw o) rfl (meth_ok (x := .nw (.fz (ptE p))) (os := [I far]) rfl (cls_pt p) (by cases p <;> simp only [clPt] <;> decide) hM rfl eM) (foF_times (g := fun p => upPt p far) (fun q hq => up_bx (hd q hq) f2) (up_bx hpo f2) hdl (.inr rfl) (qo q))) rfl (by simp [E])
    have s3 : sSet 4 false (eCall M_pair_times (aCons (eVar 4) (aCons (eMeth [("Choose", M_Choose_down), ("Weight", M_Part_down), ("Power", M_Power_down), ("Growth", M_Part_down)] "down" (eVar 5) (aCons (eVar 1) aNil)) aNil))) (((E d P1).set 2 (.vl true (.fz (L (d ++ [p]))))).set 3 (U (fun p => upPt p far) (d ++ [p]))) = .nx (E (d ++ [p]) P1) := by
      obtain ⟨M, o, hM, eM, q⟩ := down_cls hpo f2
      exact set_go (x := .nw (pO (foF (fun p => dnPt p far) (d ++ [p])))) (call2 (x := .nw (.fz (pD (foF (fun p => dnPt p far) d)))) (y := .nw o) rfl (meth_ok (x := .nw (.fz (ptE p))) (os := [I far]) rfl (cls_pt p) (by cases p <;> simp only [clPt] <;> decide) hM rfl eM) (foF_times (g := fun p => dnPt p far) (fun q hq => dn_bx (hd q hq) f2) (dn_bx hpo f2) hdl (.inr rfl) (qo q))) rfl (by simp [E])
    exact ⟨E d P1, _, by simp [E, P1], seq_go s1 (seq_go s2 s3), P1, rfl⟩
  obtain ⟨r', hw, y, er⟩ := forL_spl (fg := gN 5) (F := (sSeq (sSet 2 false (eLcD (iEnumD (eVar 2)) (gT [(gN 6), (gN 7)]) [6, 7] tYesD (eCall M_pair_times (aCons (eVar 7) (aCons (eMeth [("Choose", M_Choose_step), ("Weight", M_Weight_step), ("Power", M_Part_step), ("Growth", M_Growth_step)] "step" (eVar 5) (aCons (eVar 6) (aCons (eVar 1) aNil))) aNil))))) (sSeq (sSet 3 false (eCall M_pair_times (aCons (eVar 3) (aCons (eMeth [("Choose", M_Choose_up), ("Weight", M_Part_up), ("Power", M_Power_up), ("Growth", M_Part_up)] "up" (eVar 5) (aCons (eVar 1) aNil)) aNil)))) (sSet 4 false (eCall M_pair_times (aCons (eVar 4) (aCons (eMeth [("Choose", M_Choose_down), ("Weight", M_Part_down), ("Power", M_Power_down), ("Growth", M_Part_down)] "down" (eVar 5) (aCons (eVar 1) aNil)) aNil)))))))
    (g := fun p => .nw (.fz (ptE p))) (P := fun d r => ∃ y, r = E d y) ps [] (E [] .un) ⟨.un, rfl⟩ step
  subst er
  show runF 8 B_Term_frame _ = _
  unfold B_Term_frame
  refine run_ret (seq_go (r' := [.vl false (.fz (tmE ps)), .vl false (I far), .vl true (.fz (L [])), .un, .un, .un, .un, .un]) ?_ (seq_go (r' := [.vl false (.fz (tmE ps)), .vl false (I far), .vl true (.fz (L [])), U (fun p => upPt p far) [], .un, .un, .un, .un]) ?_ (seq_go (r' := E [] .un) ?_ (seq_go (for_go hmade hw) (ret_go ?_)))))
  · refine set_go (x := .nw (.ls ((List.range (far + 1)).map fun (_ : Nat) => pO oneP))) ?_ ?_ (by simp [startE])
    · refine lcD_map (g := fun (i : Nat) => intR (i : Int)) (v := fun _ => pO oneP) ?_ (by simp [startE]) (fun i hi => ⟨_, by simp [wipeE, startE, intR]; rfl, one_ev _⟩) (by simp; omega)
      refine rng_ok (n := far + 1) ?_ (by omega)
      have := e_add (f := eVar 1) (g := eC (.int 1)) (r := startE 8 [.fz (tmE ps), I far]) (a := far) (b := 1) rfl (eC_ev _)
      simp only [aCons_ev, this, res_ok, aNil_ev]; rfl
    · have : er (.ls ((List.range (far + 1)).map fun (_ : Nat) => pO oneP)) = L [] := by
        rw [er_ls, ers_eq, List.map_map]; rfl
      show some (S.vl true (.fz (er (.ls ((List.range (far + 1)).map fun (_ : Nat) => pO oneP))))) = _
      rw [this]
  · exact set_go (x := .nw (pO oneP)) (one_ev _) rfl (by simp)
  · exact set_go (x := .nw (pO oneP)) (one_ev _) rfl (by simp)
  · rfl
def zPt : Pt → Bool
  | .wt f => zf f
  | _ => false
def slo (w : Bool) (f : T3) (i far : Int) : Int := if cf w f = 0 then 0 else mx0 f.1 * far - f.1 * i
def ulo (w : Bool) (f : T3) : Int := if cf w f ≠ 0 ∧ f.2.1 < 0 then -f.2.1 else 0
def dlo (w : Bool) (f : T3) : Int := if cf w f ≠ 0 ∧ 0 < f.2.1 then f.2.1 else 0
def sdg (w : Bool) (i far : Int) : Pt → Int
  | .ch h l => (if cf w h = 0 then 0 else i * h.1) + slo w l i far + slo w (dif3 h l) i far
  | .wt f => if cf w f = 0 then 0 else 1
  | _ => 0
def udg (w : Bool) : Pt → Int
  | .ch h l => (if cf w h = 0 then 0 else h.2.1) + ulo w l + ulo w (dif3 h l)
  | _ => 0
def ddg (w : Bool) : Pt → Int
  | .ch h l => dlo w l + dlo w (dif3 h l)
  | _ => 0
theorem cf_rl (w : Bool) (far : Int) (f : T3) : cf w (rl far f) = cf w f := by cases w <;> rfl
theorem riS_dg (w : Bool) {f : T3} (h : okLo f) {i far : Int} (hi : 0 ≤ i ∧ i ≤ far) (hf : far ≤ 2) : Dg w false (riS f i far) (slo w f i far) := by
  obtain ⟨a1, a2, a3, a4, a5⟩ := riS_n h hi hf
  refine (risR_dg w h.lt (by omega) (by omega) ?_).eq ?_
  · by_cases h0 : f.1 = 0
    · left
      rw [a3, h0]
      simp [mx0]
    · exact .inr (.inl h0)
  · unfold slo
    rw [a3, Int.mul_comm (mx0 f.1), Int.mul_comm f.1]
    split
    · rfl
    · omega
theorem upR_dg (w : Bool) {f : T3} (h : okLo f) {far : Int} (hf : 0 ≤ far ∧ far ≤ 2) : Dg w false (upR f far) (ulo w f) := by
  have h' := h
  unfold okLo at h'
  refine (risR_dg w (h.rlt hf) (by omega) (by omega) ?_).eq ?_
  · by_cases h0 : f.2.1 = 0
    · left; omega
    · exact .inr (.inr h0)
  · rw [cf_rl]
    unfold ulo
    by_cases hc : cf w f = 0
    · rw [if_pos hc, if_neg (by simp [hc])]
    · rw [if_neg hc]
      split <;> omega
theorem dnR_dg (w : Bool) {f : T3} (h : okLo f) {far : Int} (hf : 0 ≤ far ∧ far ≤ 2) : Dg w false (dnR f far) (dlo w f) := by
  have h' := h
  unfold okLo at h'
  refine (risR_dg w (h.rlt hf) (by omega) (by omega) ?_).eq ?_
  · by_cases h0 : f.2.1 = 0
    · left; omega
    · exact .inr (.inr h0)
  · rw [cf_rl]
    unfold dlo
    by_cases hc : cf w f = 0
    · rw [if_pos hc, if_neg (by simp [hc])]
    · rw [if_neg hc]
      split <;> omega
theorem stp_dg (w : Bool) {p : Pt} (hp : okPt p) {i far : Int} (hi : 0 ≤ i ∧ i ≤ far) (hf : far ≤ 2) : Dg w (zPt p) (stpPt p i far) (sdg w i far p) := by
  cases p with
  | ch h l =>
    obtain ⟨q1, q2, q3⟩ := okCh.lo hp
    have b0 := (hi_bx hp (i := i) (by omega))
    have d0 : Dg w false (risR h 1 (i * h.1)) (if cf w h = 0 then 0 else i * h.1) := by
      refine (risR_dg w q3.lt (by omega) (by omega) ?_).eq ?_
      · by_cases h0 : h.1 = 0
        · left; rw [h0]; omega
        · exact .inr (.inl h0)
      · split
        · rfl
        · omega
    exact Dg.times (stpC_bx hp hi hf).1.c (riS_bx q2 hi hf).c (Dg.times b0.2.c (riS_bx q1 hi hf).c d0 (riS_dg w q1 hi hf)) (riS_dg w q2 hi hf)
  | wt f =>
    have h1 := Dg.form w (f.1, f.2.1, f.2.2 + i * f.1)
    have e : zf (f.1, f.2.1, f.2.2 + i * f.1) = zf f := by
      unfold zf
      by_cases h0 : f.1 = 0
      · simp [h0]
      · simp [h0]
    rw [e] at h1
    exact h1.eq (by rw [show cf w (f.1, f.2.1, f.2.2 + i * f.1) = cf w f by cases w <;> rfl]; rfl)
  | pw f => exact Dg.one w
  | gr f =>
    obtain ⟨q1, q2, q3, q4⟩ := fr_b hp
    exact Dg.num w (Int.mul_ne_zero (Int.pow_ne_zero q3) (Int.pow_ne_zero q4))
theorem up_dg (w : Bool) {p : Pt} (hp : okPt p) {far : Int} (hf : 0 ≤ far ∧ far ≤ 2) : Dg w false (upPt p far) (udg w p) := by
  cases p with
  | ch h l =>
    obtain ⟨q1, q2, q3⟩ := okCh.lo hp
    obtain ⟨b1, b2, b3⟩ := upC_bx hp hf
    have hp' : okCh h l := hp
    unfold okCh at hp'
    have d0 : Dg w false (risR h 1 h.2.1) (if cf w h = 0 then 0 else h.2.1) := by
      refine (risR_dg w q3.lt (by omega) (by omega) ?_).eq ?_
      · by_cases h0 : h.2.1 = 0
        · left; omega
        · exact .inr (.inr h0)
      · split
        · rfl
        · omega
    exact Dg.times b2.c (upR_bx q2 hf).c (Dg.times b1.c (upR_bx q1 hf).c d0 (upR_dg w q1 hf)) (upR_dg w q2 hf)
  | wt f => exact Dg.one w
  | pw f => exact Dg.num w (fr_b hp).2.2.1
  | gr f => exact Dg.one w
theorem dn_dg (w : Bool) {p : Pt} (hp : okPt p) {far : Int} (hf : 0 ≤ far ∧ far ≤ 2) : Dg w false (dnPt p far) (ddg w p) := by
  cases p with
  | ch h l =>
    obtain ⟨q1, q2, q3⟩ := okCh.lo hp
    obtain ⟨b2, b3⟩ := dnC_bx hp hf
    exact (Dg.times b2.c (dnR_bx q2 hf).c (Dg.times one_bx.c (dnR_bx q1 hf).c (Dg.one w) (dnR_dg w q1 hf)) (dnR_dg w q2 hf)).eq (by show 0 + dlo w l + _ = dlo w l + _; omega)
  | wt f => exact Dg.one w
  | pw f => exact Dg.num w (fr_b hp).2.2.2
  | gr f => exact Dg.one w
theorem foP_dg {w : Bool} {g : Pt → PP} {z : Pt → Bool} {dd : Pt → Int} : ∀ (ps : List Pt) {P : PP} {z0 : Bool} {d0 : Int}, Cl P → (∀ p ∈ ps, Bx (g p) 30 30 1400 ∧ Dg w (z p) (g p) (dd p)) → Dg w z0 P d0 → Dg w (z0 || ps.any z) (foP g P ps) (d0 + (ps.map dd).sum)
  | [], P, z0, d0, _, _, h => by
    show Dg w (z0 || false) P (d0 + 0)
    rw [Bool.or_false, Int.add_zero]; exact h
  | p :: ps, P, z0, d0, c, hg, h => by
    obtain ⟨b, q⟩ := hg p List.mem_cons_self
    have h1 := Dg.times c b.c h q
    have h2 := foP_dg ps (times_cl P (g p)) (fun q hq => hg q (List.mem_cons_of_mem _ hq)) h1
    rw [List.any_cons, List.map_cons, List.sum_cons, ← Bool.or_assoc, ← Int.add_assoc]
    exact h2
theorem foF_dg {w : Bool} {g : Pt → PP} {z : Pt → Bool} {dd : Pt → Int} {ps : List Pt} (hg : ∀ p ∈ ps, Bx (g p) 30 30 1400 ∧ Dg w (z p) (g p) (dd p)) : Dg w (ps.any z) (foF g ps) ((ps.map dd).sum) := by
  have h := foP_dg ps one_bx.c hg (Dg.one w)
  rw [Bool.false_or, Int.zero_add] at h
  exact h
theorem any_false (ps : List Pt) : ps.any (fun _ => false) = false := by induction ps with
  | nil => rfl
  | cons p ps ih => rw [List.any_cons, ih]; rfl
theorem steps_dg (w : Bool) {ps : List Pt} (hp : ∀ p ∈ ps, okPt p) {i far : Int} (hi : 0 ≤ i ∧ i ≤ far) (hf : far ≤ 2) : Dg w (ps.any zPt) (foF (fun p => stpPt p i far) ps) ((ps.map (sdg w i far)).sum) :=
  foF_dg fun p h => ⟨stp_bx (hp p h) hi hf, stp_dg w (hp p h) hi hf⟩
theorem ups_dg (w : Bool) {ps : List Pt} (hp : ∀ p ∈ ps, okPt p) {far : Int} (hf : 0 ≤ far ∧ far ≤ 2) : Dg w false (foF (fun p => upPt p far) ps) ((ps.map (udg w)).sum) := by
  have := foF_dg (w := w) (g := fun p => upPt p far) (z := fun _ => false) (dd := udg w) (ps := ps) fun p h => ⟨up_bx (hp p h) hf, up_dg w (hp p h) hf⟩
  rw [any_false] at this; exact this
theorem dns_dg (w : Bool) {ps : List Pt} (hp : ∀ p ∈ ps, okPt p) {far : Int} (hf : 0 ≤ far ∧ far ≤ 2) : Dg w false (foF (fun p => dnPt p far) ps) ((ps.map (ddg w)).sum) := by
  have := foF_dg (w := w) (g := fun p => dnPt p far) (z := fun _ => false) (dd := ddg w) (ps := ps) fun p h => ⟨dn_bx (hp p h) hf, dn_dg w (hp p h) hf⟩
  rw [any_false] at this; exact this
def mxd (w : Bool) (P : PP) : Int := maxD 0 (P.map fun x => prj w x.1)
theorem Dg.mxd {w z : Bool} {P : PP} {d : Int} (c : Cl P) (h : Dg w z P d) : mxd w P = if z then 0 else d := by
  unfold Dg at h
  cases z with
  | true => rw [if_pos rfl] at h ⊢; rw [h]; rfl
  | false =>
    rw [if_neg (by simp)] at h ⊢
    obtain ⟨K, h1, h2⟩ := h
    obtain ⟨x, hx, ex, _⟩ := gv_mem c h1.1
    cases P with
    | nil => cases hx
    | cons y P =>
      show maxL (prj w y.1) (P.map fun x => prj w x.1) = d
      have hm := maxL_mem (P.map fun x => prj w x.1) (prj w y.1)
      have hg := maxL_ge (P.map fun x => prj w x.1) (prj w y.1)
      have u : maxL (prj w y.1) (P.map fun x => prj w x.1) ≤ d := by
        rw [← h2]
        have le : ∀ x ∈ y :: P, prj w x.1 ≤ prj w K := fun x hx => by
          rcases h1.2 x hx with q | q
          · omega
          · omega
        rcases List.mem_cons.mp hm with e | e
        · rw [e]; exact le y List.mem_cons_self
        · obtain ⟨z, hz, e2⟩ := List.mem_map.mp e
          rw [← e2]; exact le z (List.mem_cons_of_mem _ hz)
      have l : d ≤ maxL (prj w y.1) (P.map fun x => prj w x.1) := by
        rw [← h2, ← ex]
        rcases List.mem_cons.mp hx with e | e
        · rw [e]; exact hg.1
        · exact hg.2 _ (List.mem_map.mpr ⟨x, e, rfl⟩)
      omega
theorem maxL_grow (c : Int) : ∀ (xs : List Int), 0 ≤ c → (∀ x ∈ xs, 0 ≤ x) → maxL c xs = (if c < maxD 0 xs then maxD 0 xs else c)
  | [], h, _ => by show c = if c < 0 then 0 else c; split <;> omega
  | x :: xs, h, hx => by
    have e : maxD 0 (x :: xs) = maxL x xs := rfl
    have h1 := maxL_ge (x :: xs) c
    have h2 := maxL_mem (x :: xs) c
    have h3 := maxL_ge xs x
    have h4 := maxL_mem xs x
    rw [e]
    have a1 : maxL x xs ≤ maxL c (x :: xs) := h1.2 _ h4
    have a2 : maxL c (x :: xs) = c ∨ maxL c (x :: xs) ≤ maxL x xs := by
      rcases List.mem_cons.mp h2 with q | q
      · exact .inl q
      · rcases List.mem_cons.mp q with q | q
        · right; rw [q]; exact h3.1
        · right; exact h3.2 _ q
    have a3 := h1.1
    split <;> omega
theorem lc_keys {m : Nat} {f : FE} {r : Env} {w : PK → Int} : ∀ (P : PP) (acc : List O), (∀ k : PK, ∃ r1, gKy m (.vw (kO (kk k))) r = some r1 ∧ f r1 = .ok (.nw (I (w k)))) → acc.length + P.length ≤ 100000 → lcL (gKy m) tYesD f r ((ent P).map fun p => .vw (kO p.1)) acc = .ok (.nw (.ls (acc ++ P.map fun x => I (w x.1))))
  | [], acc, _, _ => by simp [ent, lcL]
  | x :: P, acc, h, hl => by
    obtain ⟨r1, e1, e2⟩ := h x.1
    rw [List.length_cons] at hl
    have ih := lc_keys (m := m) (f := f) (r := r) (w := w) P (acc ++ [I (w x.1)]) h (by simp; omega)
    show lcL (gKy m) tYesD f r (.vw (kO (kk x.1)) :: (ent P).map fun p => .vw (kO p.1)) acc = _
    unfold lcL
    simp only [e1, e2, tYes_ev, newO]
    rw [if_pos (by omega), ih]
    simp
theorem degk_ok {o : O} {P : PP} (h : IsQ o P) (hl : P.length ≤ 100000) : M_degree_in_k [o] = .ok (I (mxd false P)) := by
  have hr : (startE 2 [o])[0]? = some (.vl false o) := rfl
  show runF 2 B_degree_in_k _ = _
  unfold B_degree_in_k
  refine run_ret ?_
  unfold sMaxK sWalkI
  rw [hr]
  dsimp only
  rw [h.dI]
  dsimp only
  unfold maxK
  rw [if_pos (by simp [startE])]
  rw [lc_keys (w := fun k => prj false k) P [] (fun k => ⟨[.vl false o, .tq (kk k)], rfl, rfl⟩) (by simpa using hl)]
  simp only [List.nil_append]
  have ei : ∀ P : PP, intsOf (P.map fun x => I (prj false x.1)) = some (P.map fun x => prj false x.1) := fun P => by
    induction P with
    | nil => rfl
    | cons x P ih =>
      rw [List.map_cons, List.map_cons]
      simp only [intsOf, ih]; rfl
  rw [ei]; rfl
def lowsP : Pt → List T3
  | .ch h l => [l, dif3 h l]
  | _ => []
def lowsA (ps : List Pt) : List T3 := ps.flatMap lowsP
theorem lowsA_snoc (d : List Pt) (p : Pt) : lowsA (d ++ [p]) = lowsA d ++ lowsP p := by unfold lowsA; rw [List.flatMap_append]; simp
theorem lowsP_len (p : Pt) : (lowsP p).length ≤ 2 := by cases p <;> simp [lowsP]
theorem lowsA_len (d : List Pt) : (lowsA d).length ≤ 2 * d.length := by
  induction d with
  | nil => simp [lowsA]
  | cons p d ih =>
    have := lowsP_len p
    unfold lowsA at ih ⊢
    rw [List.flatMap_cons, List.length_append, List.length_cons]; omega
def behB (f : T3) : Bool := decide (f.2.1 < 0) && (decide (f.1 + f.2.1 ≤ 0) && decide (f.2.1 + f.2.2 < 0))
def befB (f : T3) : Bool := decide (f.1 = 0) && (decide (0 < f.2.1) && (decide (0 ≤ f.2.2) && decide (f.2.2 < f.2.1)))
def endsB (ps : List Pt) : Bool := (lowsA ps).any behB && (lowsA ps).any befB
theorem t_isch {i : Nat} {r : Env} {p : Pt} (h : eVar i r = .ok (.nw (.fz (ptD p)))) : tOf (eOp gEq (eIx (eVar i) (eC (.int 0))) (eC (.str "choose"))) r = .ok (isCh p) := by
  obtain ⟨x, ds, e, q⟩ := ptD_0 p
  rw [e] at h
  have e0 : eIx (eVar i) (eC (.int 0)) r = .ok (.nw (.fz (.str x))) := ix_t 0 h rfl
  rw [tOf_ev, op_of e0 (eC_ev _), ra_nw, er_fz, ra_nw, er_fz, q]; rfl
theorem isCh_ex {p : Pt} (h : isCh p = true) : ∃ a b, p = .ch a b := by
  cases p with
  | ch a b => exact ⟨a, b, rfl⟩
  | _ => cases h
abbrev oT (fs : List T3) : List O := fs.map fun f => .fz (t3 f)
theorem allFz_oT (fs : List T3) : allFz (oT fs) = true := by induction fs with
  | nil => rfl
  | cons x xs ih => exact ih
theorem told_its {ps : List Pt} {i : Nat} {r : Env} (h : eVar i r = .ok (.nw (.fz (tmE ps)))) : eMeth [("Term", M_Term_told)] "told" (eVar i) aNil r = .ok (.nw (.ls (oPt ps))) :=
  meth_ok (x := .nw (.fz (tmE ps))) (c := "Term") (ns := ["made", "words"]) (M := M_Term_told) (os := []) h rfl (by decide) rfl rfl (told_ok ps)
theorem lowf_ok (ps : List Pt) (hl : ps.length ≤ 6) : M_low_forms [.fz (tmE ps)] = .ok (.ls (oT (lowsA ps))) := by
  let E (d : List Pt) (y z u : S) : Env := [.vl false (.fz (tmE ps)), .vl true (.ls (oT (lowsA d))), y, z, u]
  have hi : iLst (eMeth [("Term", M_Term_told)] "told" (eVar 0) aNil) (E [] .un .un .un) = .ok (ps.map fun p => .nw (.fz (ptD p))) := by
    rw [iLst, told_its rfl, res_ok]
    show (match items (.fz (er (.ls (oPt ps)))) with | some os => Res.ok (os.map DL.R.nw) | none => .bad) = _
    rw [er_oPt]
    simp
  obtain ⟨r', hw, y, z, u, er⟩ := forL_spl (fg := gN 2) (F := (sIf (tOf (eOp gEq (eIx (eVar 2) (eC (.int 0))) (eC (.str "choose")))) (sSeq (sSet 3 false (eIx (eVar 2) (eC (.int 1)))) (sSeq (sSet 4 false (eIx (eVar 2) (eC (.int 2)))) (sSeq (sApp 1 (eVar 4)) (sApp 1 (eTup (aCons (eOp gSub (eIx (eVar 3) (eC (.int 0))) (eIx (eVar 4) (eC (.int 0)))) (aCons (eOp gSub (eIx (eVar 3) (eC (.int 1))) (eIx (eVar 4) (eC (.int 1)))) (aCons (eOp gSub (eIx (eVar 3) (eC (.int 2))) (eIx (eVar 4) (eC (.int 2)))) aNil)))))))) sNil))
    (g := fun p => .nw (.fz (ptD p))) (P := fun d r => ∃ y z u, r = E d y z u) ps [] (E [] .un .un .un) ⟨.un, .un, .un, rfl⟩ (fun d p e r he ⟨y, z, u, hr⟩ => by
      subst hr
      rw [List.nil_append] at he
      have hdl : d.length < 6 := by
        have := congrArg List.length he
        rw [List.length_append, List.length_cons] at this
        omega
      have hll := lowsA_len d
      let P1 : S := .vl true (.fz (ptD p))
      have tc := t_isch (i := 2) (r := E d P1 z u) (p := p) rfl
      cases hc : isCh p with
      | false =>
        rw [hc] at tc
        refine ⟨E d P1 z u, E d P1 z u, by simp [E, P1], if_f tc rfl, P1, z, u, ?_⟩
        have : lowsA (d ++ [p]) = lowsA d := by
          rw [lowsA_snoc]
          cases p with
          | ch a b => cases hc
          | _ => simp [lowsP]
        show E d P1 z u = E (d ++ [p]) P1 z u
        simp only [E, this]
      | true =>
        rw [hc] at tc
        obtain ⟨h, l, rfl⟩ := isCh_ex hc
        have a1 : ∀ z u, eIx (eVar 2) (eC (.int 1)) (E d P1 z u) = .ok (.nw (.fz (t3 h))) := fun z u => ix_t 1 (ds := [.str "choose", t3 h, t3 l]) rfl rfl
        have a2 : ∀ z u, eIx (eVar 2) (eC (.int 2)) (E d P1 z u) = .ok (.nw (.fz (t3 l))) := fun z u => ix_t 2 (ds := [.str "choose", t3 h, t3 l]) rfl rfl
        let H1 : S := .vl true (.fz (t3 h))
        let L1 : S := .vl true (.fz (t3 l))
        let R2 : Env := [.vl false (.fz (tmE ps)), .vl true (.ls (oT (lowsA d) ++ [.fz (t3 l)])), P1, H1, L1]
        have h0 : eIx (eVar 3) (eC (.int 0)) R2 = .ok (.nw (I h.1)) := ix_t 0 (ds := [.int h.1, .int h.2.1, .int h.2.2]) rfl rfl
        have h1 : eIx (eVar 3) (eC (.int 1)) R2 = .ok (.nw (I h.2.1)) := ix_t 1 (ds := [.int h.1, .int h.2.1, .int h.2.2]) rfl rfl
        have h2 : eIx (eVar 3) (eC (.int 2)) R2 = .ok (.nw (I h.2.2)) := ix_t 2 (ds := [.int h.1, .int h.2.1, .int h.2.2]) rfl rfl
        have l0 : eIx (eVar 4) (eC (.int 0)) R2 = .ok (.nw (I l.1)) := ix_t 0 (ds := [.int l.1, .int l.2.1, .int l.2.2]) rfl rfl
        have l1 : eIx (eVar 4) (eC (.int 1)) R2 = .ok (.nw (I l.2.1)) := ix_t 1 (ds := [.int l.1, .int l.2.1, .int l.2.2]) rfl rfl
        have l2 : eIx (eVar 4) (eC (.int 2)) R2 = .ok (.nw (I l.2.2)) := ix_t 2 (ds := [.int l.1, .int l.2.1, .int l.2.2]) rfl rfl
        have ap1 : sApp 1 (eVar 4) (E d P1 H1 L1) = .nx R2 := app_ls (d := t3 l) rfl (allFz_oT _) (x := .nw (.fz (t3 l))) rfl rfl (by rw [List.length_map]; omega)
        have ap2 := app_ls (i := 1) (r := R2) (f := eTup (aCons (eOp gSub (eIx (eVar 3) (eC (.int 0))) (eIx (eVar 4) (eC (.int 0)))) (aCons (eOp gSub (eIx (eVar 3) (eC (.int 1))) (eIx (eVar 4) (eC (.int 1)))) (aCons (eOp gSub (eIx (eVar 3) (eC (.int 2))) (eIx (eVar 4) (eC (.int 2)))) aNil)))) (os := oT (lowsA d) ++ [.fz (t3 l)]) (d := t3 (dif3 h l)) rfl (by
          have := allFz_oT (lowsA d ++ [l])
          rw [show oT (lowsA d ++ [l]) = oT (lowsA d) ++ [.fz (t3 l)] by simp [oT]] at this
          exact this) (x := .nw (.fz (t3 (dif3 h l)))) (e_t3 (e_sub h0 l0) (e_sub h1 l1) (e_sub h2 l2)) rfl (by simp [oT]; omega)
        refine ⟨E d P1 z u, _, by simp [E, P1], if_t tc (seq_go (r' := E d P1 H1 u) (set_go (a1 z u) rfl (by simp [E])) (seq_go (r' := E d P1 H1 L1) (set_go (a2 H1 u) rfl (by simp [E])) (seq_go ap1 ap2))), P1, H1, L1, ?_⟩
        have : oT (lowsA (d ++ [.ch h l])) = oT (lowsA d) ++ [.fz (t3 l)] ++ [.fz (t3 (dif3 h l))] := by
          rw [lowsA_snoc]
          simp [oT, lowsP]
        show R2.set 1 _ = E (d ++ [.ch h l]) P1 H1 L1
        simp only [E, this, R2]
        rfl)
  subst er
  show runF 5 B_low_forms _ = _
  unfold B_low_forms
  exact run_ret (seq_go (r' := E [] .un .un .un) (set_go (x := .nw (.ls [])) rfl rfl (by simp [startE])) (seq_go (for_go hi hw) rfl))
theorem ends_ok (ps : List Pt) (hl : ps.length ≤ 6) : M_has_ends [.fz (tmE ps)] = .ok (.fz (.bl (endsB ps))) := by
  let VB (b : Bool) : S := .vl true (.fz (.bl b))
  let E (d : List T3) (x y z : S) : Env := [.vl false (.fz (tmE ps)), VB (d.any behB), VB (d.any befB), x, y, z]
  have hi : iLst (eCall M_low_forms (aCons (eVar 0) aNil)) (E [] .un .un .un) = .ok ((lowsA ps).map fun f => .nw (.fz (t3 f))) := by
    rw [iLst, call1 (x := .nw (.fz (tmE ps))) rfl (lowf_ok ps hl), res_ok]
    show (match items (.fz (er (.ls (oT (lowsA ps))))) with | some os => Res.ok (os.map DL.R.nw) | none => .bad) = _
    rw [er_ls, ers_eq, List.map_map]
    simp
  obtain ⟨r', hw, x, y, z, er⟩ := forL_spl (fg := gT [(gN 3), (gN 4), (gN 5)]) (F := (sSeq (sIf (tAndD (tOf (eOp gLt (eVar 4) (eC (.int 0)))) (tAndD (tOf (eOp gLe (eOp gAddA (eVar 3) (eVar 4)) (eC (.int 0)))) (tOf (eOp gLt (eOp gAddA (eVar 4) (eVar 5)) (eC (.int 0)))))) (sSet 1 false (eC (.bl true))) sNil) (sIf (tAndD (tOf (eOp gEq (eVar 3) (eC (.int 0)))) (tAndD (tOf (eOp gGt (eVar 4) (eC (.int 0)))) (tOf (eChain gLe gLt (eC (.int 0)) (eVar 5) (eVar 4))))) (sSet 2 false (eC (.bl true))) sNil)))
    (g := fun f => .nw (.fz (t3 f))) (P := fun d r => ∃ x y z, r = E d x y z) (lowsA ps) [] (E [] .un .un .un) ⟨.un, .un, .un, rfl⟩ (fun d f e r he ⟨x, y, z, hr⟩ => by
      subst hr
      let R (a b : S) : Env := [.vl false (.fz (tmE ps)), a, b, VI f.1, VI f.2.1, VI f.2.2]
      have t1 : ∀ a b, tAndD (tOf (eOp gLt (eVar 4) (eC (.int 0)))) (tAndD (tOf (eOp gLe (eOp gAddA (eVar 3) (eVar 4)) (eC (.int 0)))) (tOf (eOp gLt (eOp gAddA (eVar 4) (eVar 5)) (eC (.int 0))))) (R a b) = .ok (behB f) := fun a b => by
        refine t_andT (t_lt (a := f.2.1) (b := 0) rfl (eC_ev _)) fun _ => t_andT ?_ fun _ => t_lt (a := f.2.1 + f.2.2) (b := 0) (e_add rfl rfl) (eC_ev _)
        rw [tOf_ev, op_of (e_add (a := f.1) (b := f.2.1) rfl rfl) (eC_ev _)]; rfl
      have t2 : ∀ a b, tAndD (tOf (eOp gEq (eVar 3) (eC (.int 0)))) (tAndD (tOf (eOp gGt (eVar 4) (eC (.int 0)))) (tOf (eChain gLe gLt (eC (.int 0)) (eVar 5) (eVar 4)))) (R a b) = .ok (befB f) := fun a b => by
        refine t_andT (t_eq (a := f.1) (b := 0) rfl (eC_ev _)) fun _ => t_andT (t_gt (a := f.2.1) (b := 0) rfl (eC_ev _)) fun _ => ?_
        have v5 : eVar 5 (R a b) = .ok (.nw (I f.2.2)) := rfl
        have v4 : eVar 4 (R a b) = .ok (.nw (I f.2.1)) := rfl
        by_cases h0 : 0 ≤ f.2.2
        · simp [eChain, v5, v4, onB, h0]
        · simp [eChain, v5, v4, onB, h0]
      refine ⟨R (VB (d.any behB)) (VB (d.any befB)), R (VB ((d ++ [f]).any behB)) (VB ((d ++ [f]).any befB)), by simp [E, R, gT, gL], seq_go (r' := R (VB ((d ++ [f]).any behB)) (VB (d.any befB))) ?_ ?_, VI f.1, VI f.2.1, VI f.2.2, rfl⟩
      · rw [List.any_append, List.any_cons, List.any_nil, Bool.or_false]
        cases hb : behB f with
        | true => exact if_t (by rw [t1, hb]) (set_go (eC_ev _) (by rw [Bool.or_true]; rfl) (by simp [R]))
        | false => exact if_f (by rw [t1, hb]) (by rw [Bool.or_false]; rfl)
      · rw [List.any_append (xs := d) (ys := [f]) (f := befB), List.any_cons, List.any_nil, Bool.or_false]
        cases hb : befB f with
        | true => exact if_t (by rw [t2, hb]) (set_go (eC_ev _) (by rw [Bool.or_true]; rfl) (by simp [R]))
        | false => exact if_f (by rw [t2, hb]) (by rw [Bool.or_false]; rfl))
  subst er
  show runF 6 B_has_ends _ = _
  unfold B_has_ends
  refine run_ret (seq_go (r' := [.vl false (.fz (tmE ps)), VB false, .un, .un, .un, .un]) (set_go (eC_ev _) rfl (by simp [startE])) (seq_go (r' := E [] .un .un .un) (set_go (eC_ev _) rfl (by simp)) (seq_go (for_go hi hw) (ret_go ?_))))
  unfold endsB
  show eAnd (eVar 1) (eVar 2) (E (lowsA ps) x y z) = _
  have v1 : eVar 1 (E (lowsA ps) x y z) = .ok (.nw (.fz (.bl ((lowsA ps).any behB)))) := rfl
  have v2 : eVar 2 (E (lowsA ps) x y z) = .ok (.nw (.fz (.bl ((lowsA ps).any befB)))) := rfl
  cases hb : (lowsA ps).any behB <;> cases hb2 : (lowsA ps).any befB <;> rw [hb] at v1 <;> rw [hb2] at v2 <;> simp [eAnd, v1, v2, onB]
def mx2 (a b : Int) : Int := if b > a then b else a
theorem max2_ev {f g : FE} {r : Env} {x y : Int} (h : f r = .ok (.nw (I x))) (h2 : g r = .ok (.nw (I y))) : eB gMax2 (aCons f (aCons g aNil)) r = .ok (.nw (I (mx2 x y))) := by
  simp only [eB_ev, aCons_ev, h, h2, res_ok, aNil_ev, ra_nw, er_fz]
  exact gMax_ev x y
theorem mxd_nn {w : Bool} {P : PP} {a b m : Nat} (h : Bx P a b m) : ∀ x ∈ P.map (fun x => prj w x.1), (0 : Int) ≤ x := fun x hx => by
  obtain ⟨y, hy, rfl⟩ := List.mem_map.mp hx
  have := h.k y hy
  cases w <;> simp only [prj] <;> first | exact this.2.1 | exact this.1.1
theorem mxd_0 {w : Bool} {P : PP} {a b m : Nat} (h : Bx P a b m) : 0 ≤ mxd w P := by
  have h1 := mxd_nn (w := w) h
  unfold mxd
  cases hP : P.map (fun x => prj w x.1) with
  | nil => exact Int.le_refl 0
  | cons x xs =>
    rw [hP] at h1
    exact h1 _ (maxL_mem xs x)
theorem steps_bx {ps : List Pt} (hp : ∀ p ∈ ps, okPt p) (hl : ps.length ≤ 6) {i far : Int} (hi : 0 ≤ i ∧ i ≤ far) (hf : far ≤ 2) : Bx (foF (fun p => stpPt p i far) ps) 180 180 8700 :=
  (foF_bx (fun p h => stp_bx (hp p h) hi hf) hl).up (by omega) (by omega) (by omega)
theorem ups_bx {ps : List Pt} (hp : ∀ p ∈ ps, okPt p) (hl : ps.length ≤ 6) {far : Int} (hf : 0 ≤ far ∧ far ≤ 2) : Bx (foF (fun p => upPt p far) ps) 180 180 8700 :=
  (foF_bx (fun p h => up_bx (hp p h) hf) hl).up (by omega) (by omega) (by omega)
theorem dns_bx {ps : List Pt} (hp : ∀ p ∈ ps, okPt p) (hl : ps.length ≤ 6) {far : Int} (hf : 0 ≤ far ∧ far ≤ 2) : Bx (foF (fun p => dnPt p far) ps) 180 180 8700 :=
  (foF_bx (fun p h => dn_bx (hp p h) hf) hl).up (by omega) (by omega) (by omega)
theorem Bx.len2 {P : PP} {m : Nat} (h : Bx P 180 180 m) : P.length ≤ 100000 := Nat.le_trans h.len (by decide)
def sEx (w : Bool) (ps : List Pt) (i far : Int) : Int := if ps.any zPt then 0 else (ps.map (sdg w i far)).sum
theorem frame_e {ps : List Pt} (hp : ∀ p ∈ ps, okPt p) (hl : ps.length ≤ 6) {far : Nat} (hf : far ≤ 2) {i : Nat} {g : FE} {r : Env} (h : eVar i r = .ok (.nw (.fz (tmE ps)))) (hg : g r = .ok (.nw (I far))) : eMeth [("Term", M_Term_frame)] "frame" (eVar i) (aCons g aNil) r = .ok (.nw (.fz (frD ps far))) :=
  meth_ok (x := .nw (.fz (tmE ps))) (c := "Term") (ns := ["made", "words"]) (M := M_Term_frame) (os := [I far]) h rfl (by decide) rfl (by simp only [aCons_ev, hg, res_ok, aNil_ev]; rfl) (frame_ok hp hl hf)
theorem breadth_ok {ps : List Pt} (hp : ∀ p ∈ ps, okPt p) (hl : ps.length ≤ 6) : M_breadth_of [.fz (tmE ps)] = .ok (I (mx2 ((ps.map (udg false)).sum) ((ps.map (ddg false)).sum))) := by
  have ef := frame_e hp hl (far := 0) (by omega) (i := 0) (g := eC (.int 0)) (r := startE 4 [.fz (tmE ps)]) rfl (eC_ev _)
  have f2 : (0 : Int) ≤ ((0 : Nat) : Int) ∧ ((0 : Nat) : Int) ≤ 2 := by omega
  have bu := ups_bx hp hl f2
  have bd := dns_bx hp hl f2
  have du := (ups_dg false hp f2).mxd bu.c
  have dd := (dns_dg false hp f2).mxd bd.c
  rw [if_neg (by simp)] at du dd
  show runF 4 B_breadth_of _ = _
  unfold B_breadth_of
  refine run_ret (seq_go (r' := [.vl false (.fz (tmE ps)), .vl true (.fz (.lst ((List.range (0 + 1)).map fun (i : Nat) => pD (foF (fun p => stpPt p i (0 : Nat)) ps)))), .vl true (.fz (pD (foF (fun p => upPt p (0 : Nat)) ps))), .vl true (.fz (pD (foF (fun p => dnPt p (0 : Nat)) ps)))]) (asgT_go ef rfl) (ret_go ?_))
  have c1 := degk_ok (o := .fz (pD (foF (fun p => upPt p (0 : Nat)) ps))) (.inr rfl) bu.len2
  have c2 := degk_ok (o := .fz (pD (foF (fun p => dnPt p (0 : Nat)) ps))) (.inr rfl) bd.len2
  rw [du] at c1
  rw [dd] at c2
  exact max2_ev (call1 (x := .nw (.fz (pD (foF (fun p => upPt p (0 : Nat)) ps)))) rfl c1) (call1 (x := .nw (.fz (pD (foF (fun p => dnPt p (0 : Nat)) ps)))) rfl c2)
theorem ints_mapI {β : Type} (xs : List β) (e : β → Int) : intsOf (xs.map fun x => I (e x)) = some (xs.map e) := by
  induction xs with
  | nil => rfl
  | cons x xs ih =>
    rw [List.map_cons, List.map_cons]
    simp only [intsOf, ih]; rfl
theorem maxL_ev {β : Type} {f : FE} {r : Env} {xs : List β} {e : β → Int} (h : f r = .ok (.nw (.ls (xs.map fun x => I (e x))))) (h0 : xs ≠ []) : eB gMaxL (aCons f aNil) r = .ok (.nw (I (maxD 0 (xs.map e)))) := by
  rw [b1 h]
  have ea : (DL.R.nw (.ls (xs.map fun x => I (e x)))).a = .fz (.lst (xs.map fun x => .int (e x))) := by
    show O.fz (er (.ls (xs.map fun x => I (e x)))) = _
    rw [er_ls, ers_eq, List.map_map]; rfl
  rw [ea]
  have ei : (items (.fz (.lst (xs.map fun x => D.int (e x))))).bind intsOf = some (xs.map e) := by
    show intsOf ((xs.map fun x => D.int (e x)).map O.fz) = _
    rw [List.map_map]
    exact ints_mapI xs e
  obtain ⟨y, ys, rfl⟩ := List.exists_cons_of_ne_nil h0
  unfold gMaxL
  dsimp only
  rw [ei]; rfl
theorem height_ok {ps : List Pt} (hp : ∀ p ∈ ps, okPt p) (hl : ps.length ≤ 6) {far : Nat} (hf : far ≤ 2) : M_height_of [.fz (tmE ps), I far] = .ok (I (maxD 0 ((List.range (far + 1)).map fun (i : Nat) => sEx false ps i far))) := by
  have ef := frame_e hp hl hf (i := 0) (g := eVar 1) (r := startE 3 [.fz (tmE ps), I far]) rfl rfl
  show runF 3 B_height_of _ = _
  unfold B_height_of
  refine run_ret (ret_go ?_)
  refine maxL_ev (xs := List.range (far + 1)) (e := fun (i : Nat) => sEx false ps i far) (lcD_map (g := fun (i : Nat) => .nw (.fz (pD (foF (fun p => stpPt p i far) ps)))) ?_ (by simp [startE]) (fun i hi => ⟨[.vl false (.fz (tmE ps)), .vl false (I far), .vl true (.fz (pD (foF (fun p => stpPt p i far) ps)))], by simp [wipeE, startE], ?_⟩) (by simp; omega)) (by simp)
  · have e0 : eIx (eMeth [("Term", M_Term_frame)] "frame" (eVar 0) (aCons (eVar 1) aNil)) (eC (.int 0)) (startE 3 [.fz (tmE ps), I far]) = .ok (.nw (.fz (.lst ((List.range (far + 1)).map fun (i : Nat) => pD (foF (fun p => stpPt p i far) ps))))) := ix_t 0 ef rfl
    rw [iLst_ds e0, List.map_map]; rfl
  · have hi2 : i ≤ far := by have := List.mem_range.mp hi; omega
    have bs := steps_bx hp hl (i := (i : Int)) (far := (far : Int)) (by omega) (by omega)
    have d := (steps_dg false hp (i := (i : Int)) (far := (far : Int)) (by omega) (by omega)).mxd bs.c
    have c1 := degk_ok (o := .fz (pD (foF (fun p => stpPt p i far) ps))) (.inr rfl) bs.len2
    rw [d] at c1
    exact call1 (x := .nw (.fz (pD (foF (fun p => stpPt p i far) ps)))) rfl c1
theorem dk2_go {i a b : Nat} {F : FS} {E : Int → S → S → Env} {P : PP} {w : Bool} {o : O} {c : Int} {y z : S} (hr : ∀ c y z, (E c y z)[i]? = some (.vl w o)) (hd : DL.dI w o = some (ent P)) (hl : ∀ c y z, a < (E c y z).length ∧ b < (E c y z).length) (hs : ∀ c y z u v, ∃ y' z', F (((E c y z).set a (VI u)).set b (VI v)) = .nx (E (mx2 c u) y' z')) : ∃ y' z', sForDK2 i a b F (E c y z) = .nx (E (maxL c (P.map fun x => prj true x.1)) y' z') := by
  have go : ∀ (P : PP) (c : Int) (y z : S), ∃ y' z', forDk2 a b F (ent P) (E c y z) = .nx (E (maxL c (P.map fun x => prj true x.1)) y' z') := fun P => by
    induction P with
    | nil => exact fun c y z => ⟨y, z, rfl⟩
    | cons x P ih =>
      intro c y z
      obtain ⟨y1, z1, h1⟩ := hs c y z x.1.1 x.1.2
      obtain ⟨y2, z2, h2⟩ := ih (mx2 c x.1.1) y1 z1
      refine ⟨y2, z2, ?_⟩
      show (if a < (E c y z).length ∧ b < (E c y z).length then (match F (((E c y z).set a (VI x.1.1)).set b (VI x.1.2)) with | .nx r' => forDk2 a b F (ent P) r' | .ct r' => forDk2 a b F (ent P) r' | .bk r' => .nx r' | .ret o => .ret o | _ => .bad) else .bad) = _
      rw [if_pos (hl c y z), h1]
      exact h2
  obtain ⟨y', z', h⟩ := go P c y z
  refine ⟨y', z', ?_⟩
  unfold sForDK2 sWalkI
  rw [hr]
  dsimp only
  rw [hd]
  exact h
theorem length_ok {ps : List Pt} (hp : ∀ p ∈ ps, okPt p) (hl : ps.length ≤ 6) {far : Nat} (hf : far ≤ 2) : M_length_of [.fz (tmE ps), I far] = .ok (I (maxL 0 (((List.range (far + 1)).map fun (i : Nat) => sEx true ps i far) ++ [(ps.map (udg true)).sum, (ps.map (ddg true)).sum]))) := by
  have ef := frame_e hp hl hf (i := 0) (g := eVar 1) (r := startE 9 [.fz (tmE ps), I far]) rfl rfl
  have f2 : (0 : Int) ≤ (far : Int) ∧ (far : Int) ≤ 2 := by omega
  have bu := ups_bx hp hl f2
  have bd := dns_bx hp hl f2
  have du := (ups_dg true hp f2).mxd bu.c
  have dd := (dns_dg true hp f2).mxd bd.c
  rw [if_neg (by simp)] at du dd
  let Ps : List PP := ((List.range (far + 1)).map fun (i : Nat) => foF (fun p => stpPt p i far) ps) ++ [foF (fun p => upPt p far) ps, foF (fun p => dnPt p far) ps]
  have hb : ∀ P ∈ Ps, Bx P 180 180 8700 := fun P hP => by
    rcases List.mem_append.mp hP with h | h
    · obtain ⟨i, hi, rfl⟩ := List.mem_map.mp h
      have hi2 : i ≤ far := by have := List.mem_range.mp hi; omega
      exact steps_bx hp hl (by omega) (by omega)
    · simp only [List.mem_cons, List.not_mem_nil, or_false] at h
      rcases h with rfl | rfl
      · exact bu
      · exact bd
  let L : D := .lst ((List.range (far + 1)).map fun (i : Nat) => pD (foF (fun p => stpPt p i far) ps))
  let U : D := pD (foF (fun p => upPt p far) ps)
  let V : D := pD (foF (fun p => dnPt p far) ps)
  let E (c : Int) (x y z : S) : Env := [.vl false (.fz (tmE ps)), .vl false (I far), .vl true (.fz L), .vl true (.fz U), .vl true (.fz V), VI c, x, y, z]
  have hi : iLst (eOp gAddA (eVar 2) (eLst (aCons (eVar 3) (aCons (eVar 4) aNil)))) (E 0 .un .un .un) = .ok (Ps.map fun P => .nw (.fz (pD P))) := by
    have e3 : eLst (aCons (eVar 3) (aCons (eVar 4) aNil)) (E 0 .un .un .un) = .ok (.nw (.ls [.fz U, .fz V])) := rfl
    have e2 : eVar 2 (E 0 .un .un .un) = .ok (.nw (.fz L)) := rfl
    have ec : eOp gAddA (eVar 2) (eLst (aCons (eVar 3) (aCons (eVar 4) aNil))) (E 0 .un .un .un) = .ok (.nw (.ls (Ps.map fun P => .fz (pD P)))) := by
      rw [op_of e2 e3]
      show gCat (.fz L) (.fz (.lst [U, V])) = _
      unfold gCat
      rw [if_neg (by simp [isScr, L])]
      show lsR ((((List.range (far + 1)).map fun (i : Nat) => pD (foF (fun p => stpPt p i far) ps)).map O.fz) ++ ([U, V] : List D).map O.fz) = _
      have e : (((List.range (far + 1)).map fun (i : Nat) => pD (foF (fun p => stpPt p i far) ps)).map O.fz) ++ ([U, V] : List D).map O.fz = Ps.map fun P => .fz (pD P) := by
        rw [show Ps = ((List.range (far + 1)).map fun (i : Nat) => foF (fun p => stpPt p i far) ps) ++ [foF (fun p => upPt p far) ps, foF (fun p => dnPt p far) ps] from rfl, List.map_append, List.map_map, List.map_map]; rfl
      rw [e]
      refine lsR_ev ?_ (by simp [Ps]; omega)
      have al : ∀ Ps : List PP, allFz (Ps.map fun P => .fz (pD P)) = true := fun Ps => by
        induction Ps with
        | nil => rfl
        | cons x xs ih => exact ih
      exact al Ps
    rw [iLst, ec, res_ok]
    show (match items (.fz (er (.ls (Ps.map fun P => .fz (pD P))))) with | some os => Res.ok (os.map DL.R.nw) | none => .bad) = _
    rw [er_ls, ers_eq, List.map_map]
    show Res.ok (((Ps.map _).map O.fz).map DL.R.nw) = _
    rw [List.map_map, List.map_map]; rfl
  let rs (d : List PP) : Int := maxL 0 (d.map (mxd true))
  obtain ⟨r', hw, x, y, z, er⟩ := forL_spl (fg := gN 6) (F := sForDK2 6 7 8 (sSet 5 false (eB gMax2 (aCons (eVar 5) (aCons (eVar 7) aNil)))))
    (g := fun P => .nw (.fz (pD P))) (P := fun d r => ∃ x y z, r = E (rs d) x y z) Ps [] (E 0 .un .un .un) ⟨.un, .un, .un, rfl⟩ (fun d P e r he ⟨x, y, z, hr⟩ => by
      subst hr
      rw [List.nil_append] at he
      have bP := hb P (by rw [← he]; simp)
      have r0 : 0 ≤ rs d := (maxL_ge (d.map (mxd true)) 0).1
      obtain ⟨y', z', h1⟩ := dk2_go (i := 6) (a := 7) (b := 8) (F := sSet 5 false (eB gMax2 (aCons (eVar 5) (aCons (eVar 7) aNil)))) (E := fun c y z => E c (.vl true (.fz (pD P))) y z) (P := P) (w := true) (o := .fz (pD P)) (c := rs d) (y := y) (z := z) (fun _ _ _ => rfl) (dI_fz P) (fun _ _ _ => by simp [E]) (fun c y z u v => ⟨VI u, VI v, set_go (x := .nw (I (mx2 c u))) (max2_ev (x := c) (y := u) rfl rfl) rfl (by simp [E])⟩)
      refine ⟨E (rs d) (.vl true (.fz (pD P))) y z, _, by simp [E], h1, .vl true (.fz (pD P)), y', z', ?_⟩
      have e : maxL (rs d) (P.map fun x => prj true x.1) = rs (d ++ [P]) := by
        rw [maxL_grow _ _ r0 (mxd_nn bP)]
        show (if rs d < mxd true P then mxd true P else rs d) = maxL 0 ((d ++ [P]).map (mxd true))
        rw [List.map_append]
        unfold maxL
        rw [List.foldl_append]; rfl
      rw [e])
  subst er
  show runF 9 B_length_of _ = _
  unfold B_length_of
  refine run_ret (seq_go (r' := [.vl false (.fz (tmE ps)), .vl false (I far), .vl true (.fz L), .vl true (.fz U), .vl true (.fz V), .un, .un, .un, .un]) (asgT_go ef rfl) (seq_go (r' := E 0 .un .un .un) (set_go (eC_ev _) rfl (by simp)) (seq_go (for_go hi hw) ?_)))
  have e : rs Ps = maxL 0 (((List.range (far + 1)).map fun (i : Nat) => sEx true ps i far) ++ [(ps.map (udg true)).sum, (ps.map (ddg true)).sum]) := by
    show maxL 0 (Ps.map (mxd true)) = _
    rw [show Ps = ((List.range (far + 1)).map fun (i : Nat) => foF (fun p => stpPt p i far) ps) ++ [foF (fun p => upPt p far) ps, foF (fun p => dnPt p far) ps] from rfl, List.map_append, List.map_map, List.map_cons, List.map_cons, List.map_nil, du, dd]
    have em : ((List.range (far + 1)).map (mxd true ∘ fun (i : Nat) => foF (fun p => stpPt p i far) ps)) = (List.range (far + 1)).map fun (i : Nat) => sEx true ps i far := by
      refine List.map_congr_left fun i hi => ?_
      have hi2 : i ≤ far := by have := List.mem_range.mp hi; omega
      exact (steps_dg true hp (i := (i : Int)) (far := (far : Int)) (by omega) (by omega)).mxd (steps_bx hp hl (by omega) (by omega)).c
    rw [em]
  rw [← e]; rfl
theorem gEq_t3 (f g : T3) : gEq (.fz (t3 f)) (.fz (t3 g)) = .ok (.nw (.fz (.bl (decide (f = g))))) := by
  have hs : ∀ f : T3, ∃ p, py (t3 f) = some p ∧ PySem.SeqAt.shaped p = true ∧ p = .tuple [.int f.1, .int f.2.1, .int f.2.2] := fun f => by
    obtain ⟨p, e1, e2, e3⟩ := plain_py 1 (t3 f) (by simp [plainD])
    refine ⟨p, e1, ?_, ?_⟩
    · unfold PySem.SeqAt.shaped
      rw [e2, decide_eq_true (by omega)]; rfl
    · have : py (t3 f) = some (.tuple [.int f.1, .int f.2.1, .int f.2.2]) := rfl
      rw [this] at e1
      exact (Option.some.inj e1).symm
  obtain ⟨p, e1, e2, rfl⟩ := hs f
  obtain ⟨q, d1, d2, rfl⟩ := hs g
  rcases int_cases (.fz (t3 f)) (.fz (t3 g)) with ⟨i, j, h, _⟩ | ⟨e, _⟩
  · cases h
  rw [e]
  simp only [gEqD, er_fz, eqD, e1, d1, e2, d2, Bool.and_self, if_true]
  have : PySem.PyData.eqv (.tuple [.int f.1, .int f.2.1, .int f.2.2]) (.tuple [.int g.1, .int g.2.1, .int g.2.2]) = decide (f = g) := by
    obtain ⟨a, b, c⟩ := f
    obtain ⟨x, y, z⟩ := g
    simp [PySem.PyData.eqv, PySem.PyData.eqvAll, Prod.mk.injEq]
    rfl
  rw [this]; rfl
theorem e_and {f g : FE} {r : Env} {a b : Bool} (h : f r = .ok (.nw (.fz (.bl a)))) (h2 : a = true → g r = .ok (.nw (.fz (.bl b)))) : eAnd f g r = .ok (.nw (.fz (.bl (a && b)))) := by
  cases a with
  | true => simp [eAnd, h, onB, h2 rfl]
  | false => simp [eAnd, h, onB]
theorem lless_ok (a b : T3) : M__law_less [.fz (t3 a), .fz (t3 b)] = .ok (.fz (t3 (dif3 a b))) := by
  let R : Env := [.vl false (.fz (t3 a)), .vl false (.fz (t3 b))]
  have i0 : ∀ k, eIx (eVar 0) (eC (.int k)) R = eIx (eVar 0) (eC (.int k)) R := fun _ => rfl
  have a0 : eIx (eVar 0) (eC (.int 0)) R = .ok (.nw (I a.1)) := ix_t 0 (ds := [.int a.1, .int a.2.1, .int a.2.2]) rfl rfl
  have a1 : eIx (eVar 0) (eC (.int 1)) R = .ok (.nw (I a.2.1)) := ix_t 1 (ds := [.int a.1, .int a.2.1, .int a.2.2]) rfl rfl
  have a2 : eIx (eVar 0) (eC (.int 2)) R = .ok (.nw (I a.2.2)) := ix_t 2 (ds := [.int a.1, .int a.2.1, .int a.2.2]) rfl rfl
  have b0 : eIx (eVar 1) (eC (.int 0)) R = .ok (.nw (I b.1)) := ix_t 0 (ds := [.int b.1, .int b.2.1, .int b.2.2]) rfl rfl
  have b1 : eIx (eVar 1) (eC (.int 1)) R = .ok (.nw (I b.2.1)) := ix_t 1 (ds := [.int b.1, .int b.2.1, .int b.2.2]) rfl rfl
  have b2 : eIx (eVar 1) (eC (.int 2)) R = .ok (.nw (I b.2.2)) := ix_t 2 (ds := [.int b.1, .int b.2.1, .int b.2.2]) rfl rfl
  show runF 2 B__law_less _ = _
  unfold B__law_less
  exact run_ret (ret_go (e_t3 (e_sub a0 b0) (e_sub a1 b1) (e_sub a2 b2)))
theorem llows_ok (h l : T3) : M__law_lows [.fz (ptD (.ch h l))] = .ok (.ls [.fz (t3 l), .fz (t3 (dif3 h l))]) := by
  let R : Env := [.vl false (.fz (ptD (.ch h l)))]
  have a1 : eIx (eVar 0) (eC (.int 1)) R = .ok (.nw (.fz (t3 h))) := ix_t 1 (ds := [.str "choose", t3 h, t3 l]) rfl rfl
  have a2 : eIx (eVar 0) (eC (.int 2)) R = .ok (.nw (.fz (t3 l))) := ix_t 2 (ds := [.str "choose", t3 h, t3 l]) rfl rfl
  have c : eCall M__law_less (aCons (eIx (eVar 0) (eC (.int 1))) (aCons (eIx (eVar 0) (eC (.int 2))) aNil)) R = .ok (.nw (.fz (t3 (dif3 h l)))) := call2 a1 a2 (lless_ok h l)
  show runF 1 B__law_lows _ = _
  unfold B__law_lows
  refine run_ret (ret_go ?_)
  show eLst _ R = _
  simp only [eLst, aCons_ev, a2, c, res_ok, aNil_ev, ra_nw, er_fz]; rfl
theorem llows_its {i : Nat} {r : Env} {h l : T3} (e : eVar i r = .ok (.nw (.fz (ptD (.ch h l))))) : iLst (eCall M__law_lows (aCons (eVar i) aNil)) r = .ok [.nw (.fz (t3 l)), .nw (.fz (t3 (dif3 h l)))] := by
  rw [iLst, call1 e (llows_ok h l)]; rfl
theorem eq_ev {f g : FE} {r : Env} {a b : Int} (h : f r = .ok (.nw (I a))) (h2 : g r = .ok (.nw (I b))) : eOp gEq f g r = .ok (.nw (.fz (.bl (decide (a = b))))) := by rw [op_of h h2]; rfl
theorem lt_ev {f g : FE} {r : Env} {a b : Int} (h : f r = .ok (.nw (I a))) (h2 : g r = .ok (.nw (I b))) : eOp gLt f g r = .ok (.nw (.fz (.bl (decide (a < b))))) := by rw [op_of h h2]; rfl
theorem le_ev {f g : FE} {r : Env} {a b : Int} (h : f r = .ok (.nw (I a))) (h2 : g r = .ok (.nw (I b))) : eOp gLe f g r = .ok (.nw (.fz (.bl (decide (a ≤ b))))) := by rw [op_of h h2]; rfl
theorem gt_ev {f g : FE} {r : Env} {a b : Int} (h : f r = .ok (.nw (I a))) (h2 : g r = .ok (.nw (I b))) : eOp gGt f g r = .ok (.nw (.fz (.bl (decide (b < a))))) := by rw [op_of h h2]; rfl
theorem ge_ev {f g : FE} {r : Env} {a b : Int} (h : f r = .ok (.nw (I a))) (h2 : g r = .ok (.nw (I b))) : eOp gGe f g r = .ok (.nw (.fz (.bl (decide (b ≤ a))))) := by rw [op_of h h2]; rfl
theorem int_ev {f : FE} {r : Env} {b : Bool} (h : f r = .ok (.nw (.fz (.bl b)))) : eB gIntB (aCons f aNil) r = .ok (.nw (I (if b then 1 else 0))) := by
  rw [b1 h]; rfl
theorem lends_ok {ps : List Pt} (hl : ps.length ≤ 6) : M__law_ends [.fz (LPt ps)] = .ok (.fz (.bl (endsB ps))) := by
  let E (d : List T3) (x y : S) : Env := [.vl false (.fz (LPt ps)), VI ((d.countP behB : Nat) : Int), VI ((d.countP befB : Nat) : Int), x, y]
  have hi : iLst (eVar 0) (E [] .un .un) = .ok (ps.map fun p => .nw (.fz (ptD p))) := by
    rw [iLst_ds (ds := ps.map ptD) rfl, List.map_map]; rfl
  have one : ∀ (d : List T3) (x y : S) (f : T3), (sSeq (sSet 1 false (eOp gAddA (eVar 1) (eB gIntB (aCons (eAnd (eOp gLt (eIx (eVar 4) (eC (.int 1))) (eC (.int 0))) (eAnd (eOp gLe (eOp gAddA (eIx (eVar 4) (eC (.int 0))) (eIx (eVar 4) (eC (.int 1)))) (eC (.int 0))) (eOp gLt (eOp gAddA (eIx (eVar 4) (eC (.int 1))) (eIx (eVar 4) (eC (.int 2)))) (eC (.int 0))))) aNil)))) (sSet 2 false (eOp gAddA (eVar 2) (eB gIntB (aCons (eAnd (eOp gEq (eIx (eVar 4) (eC (.int 0))) (eC (.int 0))) (eAnd (eOp gGt (eIx (eVar 4) (eC (.int 1))) (eC (.int 0))) (eAnd (eOp gGe (eIx (eVar 4) (eC (.int 2))) (eC (.int 0))) (eOp gLt (eIx (eVar 4) (eC (.int 2))) (eIx (eVar 4) (eC (.int 1))))))) aNil))))) (E d x (.vl true (.fz (t3 f)))) = .nx (E (d ++ [f]) x (.vl true (.fz (t3 f)))) := fun d x y f => by
    have i0 : ∀ a b, eIx (eVar 4) (eC (.int 0)) [.vl false (.fz (LPt ps)), a, b, x, .vl true (.fz (t3 f))] = .ok (.nw (I f.1)) := fun a b => ix_t 0 (ds := [.int f.1, .int f.2.1, .int f.2.2]) rfl rfl
    have i1 : ∀ a b, eIx (eVar 4) (eC (.int 1)) [.vl false (.fz (LPt ps)), a, b, x, .vl true (.fz (t3 f))] = .ok (.nw (I f.2.1)) := fun a b => ix_t 1 (ds := [.int f.1, .int f.2.1, .int f.2.2]) rfl rfl
    have i2 : ∀ a b, eIx (eVar 4) (eC (.int 2)) [.vl false (.fz (LPt ps)), a, b, x, .vl true (.fz (t3 f))] = .ok (.nw (I f.2.2)) := fun a b => ix_t 2 (ds := [.int f.1, .int f.2.1, .int f.2.2]) rfl rfl
    refine seq_go (r' := [.vl false (.fz (LPt ps)), VI (((d ++ [f]).countP behB : Nat) : Int), VI ((d.countP befB : Nat) : Int), x, .vl true (.fz (t3 f))]) (set_go (x := .nw (I (((d ++ [f]).countP behB : Nat) : Int))) ?_ rfl (by simp [E])) (set_go (x := .nw (I (((d ++ [f]).countP befB : Nat) : Int))) ?_ rfl (by simp))
    · rw [show (((d ++ [f]).countP behB : Nat) : Int) = ((d.countP behB : Nat) : Int) + (if behB f then 1 else 0) by
        rw [List.countP_append, Int.natCast_add]
        cases hb : behB f <;> simp [List.countP_cons, hb]]
      refine e_add rfl ?_
      exact int_ev (e_and (lt_ev (i1 _ _) (eC_ev _)) fun _ => e_and (le_ev (e_add (i0 _ _) (i1 _ _)) (eC_ev _)) fun _ => lt_ev (e_add (i1 _ _) (i2 _ _)) (eC_ev _))
    · rw [show (((d ++ [f]).countP befB : Nat) : Int) = ((d.countP befB : Nat) : Int) + (if befB f then 1 else 0) by
        rw [List.countP_append, Int.natCast_add]
        cases hb : befB f <;> simp [List.countP_cons, hb]]
      refine e_add rfl ?_
      exact int_ev (e_and (eq_ev (i0 _ _) (eC_ev _)) fun _ => e_and (gt_ev (i1 _ _) (eC_ev _)) fun _ => e_and (ge_ev (i2 _ _) (eC_ev _)) fun _ => lt_ev (i2 _ _) (i1 _ _))
  obtain ⟨r', hw, x, y, er⟩ := forL_spl (fg := gN 3) (F := (sIf (tOf (eOp gEq (eIx (eVar 3) (eC (.int 0))) (eC (.str "choose")))) (sFor (iLst (eCall M__law_lows (aCons (eVar 3) aNil))) (gN 4) (sSeq (sSet 1 false (eOp gAddA (eVar 1) (eB gIntB (aCons (eAnd (eOp gLt (eIx (eVar 4) (eC (.int 1))) (eC (.int 0))) (eAnd (eOp gLe (eOp gAddA (eIx (eVar 4) (eC (.int 0))) (eIx (eVar 4) (eC (.int 1)))) (eC (.int 0))) (eOp gLt (eOp gAddA (eIx (eVar 4) (eC (.int 1))) (eIx (eVar 4) (eC (.int 2)))) (eC (.int 0))))) aNil)))) (sSet 2 false (eOp gAddA (eVar 2) (eB gIntB (aCons (eAnd (eOp gEq (eIx (eVar 4) (eC (.int 0))) (eC (.int 0))) (eAnd (eOp gGt (eIx (eVar 4) (eC (.int 1))) (eC (.int 0))) (eAnd (eOp gGe (eIx (eVar 4) (eC (.int 2))) (eC (.int 0))) (eOp gLt (eIx (eVar 4) (eC (.int 2))) (eIx (eVar 4) (eC (.int 1))))))) aNil)))))) sNil))
    (g := fun p => .nw (.fz (ptD p))) (P := fun d r => ∃ x y, r = E (lowsA d) x y) ps [] (E [] .un .un) ⟨.un, .un, rfl⟩ (fun d p e r he ⟨x, y, hr⟩ => by
      subst hr
      let P1 : S := .vl true (.fz (ptD p))
      have tc := t_isch (i := 3) (r := E (lowsA d) P1 y) (p := p) rfl
      cases hc : isCh p with
      | false =>
        rw [hc] at tc
        refine ⟨E (lowsA d) P1 y, E (lowsA d) P1 y, by simp [E, P1], if_f tc rfl, P1, y, ?_⟩
        have : lowsA (d ++ [p]) = lowsA d := by
          rw [lowsA_snoc]
          cases p with
          | ch a b => cases hc
          | _ => simp [lowsP]
        rw [this]
      | true =>
        rw [hc] at tc
        obtain ⟨h, l, rfl⟩ := isCh_ex hc
        refine ⟨E (lowsA d) P1 y, E (lowsA d ++ [l] ++ [dif3 h l]) P1 (.vl true (.fz (t3 (dif3 h l)))), by simp [E, P1], if_t tc (for_go (llows_its (h := h) (l := l) rfl) (forL_two (r1 := E (lowsA d) P1 (.vl true (.fz (t3 l)))) (r2 := E (lowsA d ++ [l]) P1 (.vl true (.fz (t3 l)))) (r3 := E (lowsA d ++ [l]) P1 (.vl true (.fz (t3 (dif3 h l))))) rfl (one _ _ .un l) rfl (one _ _ .un (dif3 h l)))), P1, .vl true (.fz (t3 (dif3 h l))), ?_⟩
        rw [lowsA_snoc, List.append_assoc]; rfl)
  subst er
  show runF 5 B__law_ends _ = _
  unfold B__law_ends
  refine run_ret (seq_go (r' := [.vl false (.fz (LPt ps)), VI 0, .un, .un, .un]) (set_go (eC_ev _) rfl (by simp [startE])) (seq_go (r' := E [] .un .un) (set_go (eC_ev _) rfl (by simp)) (seq_go (for_go hi hw) (ret_go ?_))))
  have cp : ∀ b : T3 → Bool, decide ((0 : Int) < (((lowsA ps).countP b : Nat) : Int)) = (lowsA ps).any b := fun b => by
    rw [Bool.eq_iff_iff, decide_eq_true_eq, List.any_eq_true]
    have := List.countP_pos_iff (p := b) (l := lowsA ps)
    constructor
    · intro h; exact this.mp (by omega)
    · intro h; have := this.mpr h; omega
  have h1 := gt_ev (f := eVar 1) (g := eC (.int 0)) (r := E (lowsA ps) x y) (a := (((lowsA ps).countP behB : Nat) : Int)) (b := 0) rfl (eC_ev _)
  have h2 := gt_ev (f := eVar 2) (g := eC (.int 0)) (r := E (lowsA ps) x y) (a := (((lowsA ps).countP befB : Nat) : Int)) (b := 0) rfl (eC_ev _)
  rw [cp] at h1 h2
  exact e_and h1 fun _ => h2
def pl (w : Bool) : Int := if w then 0 else 1
theorem ix_pl {f g : FE} {r : Env} {w : Bool} {F : T3} (h : f r = .ok (.nw (.fz (t3 F)))) (h2 : g r = .ok (.nw (I (pl w)))) : eIx f g r = .ok (.nw (I (cf w F))) := by
  cases w with
  | true => exact ix_nw h h2 rfl
  | false => exact ix_nw h h2 rfl
theorem udg_ch (w : Bool) (h l : T3) : udg w (.ch h l) = (if cf w h = 0 then 0 else h.2.1) + ulo w l + ulo w (dif3 h l) := rfl
theorem lud_ok {ps : List Pt} (hl : ps.length ≤ 6) (w : Bool) : M__law_up_and_down [.fz (LPt ps), I (pl w)] = .ok (I (mx2 ((ps.map (udg w)).sum) ((ps.map (ddg w)).sum))) := by
  let E (u d : Int) (x y : S) : Env := [.vl false (.fz (LPt ps)), .vl false (I (pl w)), VI u, VI d, x, y]
  have hi : iLst (eVar 0) (E 0 0 .un .un) = .ok (ps.map fun p => .nw (.fz (ptD p))) := by
    rw [iLst_ds (ds := ps.map ptD) rfl, List.map_map]; rfl
  let G : FS := (sSeq (sIf (tAndD (tOf (eOp gNe (eIx (eVar 5) (eVar 1)) (eC (.int 0)))) (tOf (eOp gLt (eIx (eVar 5) (eC (.int 1))) (eC (.int 0))))) (sSet 2 false (eOp gSub (eVar 2) (eIx (eVar 5) (eC (.int 1))))) sNil) (sIf (tAndD (tOf (eOp gNe (eIx (eVar 5) (eVar 1)) (eC (.int 0)))) (tOf (eOp gGt (eIx (eVar 5) (eC (.int 1))) (eC (.int 0))))) (sSet 3 false (eOp gAddA (eVar 3) (eIx (eVar 5) (eC (.int 1))))) sNil))
  have one : ∀ (u d : Int) (x : S) (f : T3), G (E u d x (.vl true (.fz (t3 f)))) = .nx (E (u + ulo w f) (d + dlo w f) x (.vl true (.fz (t3 f)))) := fun u d x f => by
    have ip : ∀ u d, eIx (eVar 5) (eVar 1) (E u d x (.vl true (.fz (t3 f)))) = .ok (.nw (I (cf w f))) := fun u d => ix_pl rfl rfl
    have i1 : ∀ u d, eIx (eVar 5) (eC (.int 1)) (E u d x (.vl true (.fz (t3 f)))) = .ok (.nw (I f.2.1)) := fun u d => ix_t 1 (ds := [.int f.1, .int f.2.1, .int f.2.2]) rfl rfl
    have c1 := t_andT (t_ne (ip u d) (eC_ev (.int 0))) (fun _ => t_lt (i1 u d) (eC_ev (.int 0)))
    have c2 := fun u => t_andT (t_ne (ip u d) (eC_ev (.int 0))) (fun _ => t_gt (i1 u d) (eC_ev (.int 0)))
    refine seq_go (r' := E (u + ulo w f) d x (.vl true (.fz (t3 f)))) ?_ ?_
    · unfold ulo
      by_cases hc : cf w f ≠ 0 ∧ f.2.1 < 0
      · rw [if_pos hc]
        refine if_t (c1.trans (by rw [decide_eq_false hc.1, decide_eq_true hc.2]; rfl)) (set_go (x := .nw (I (u + -f.2.1))) ?_ rfl (by simp [E]))
        rw [e_sub (a := u) rfl (i1 u d), Int.sub_eq_add_neg]
      · rw [if_neg hc, Int.add_zero]
        refine if_f (c1.trans ?_) rfl
        congr 1
        by_cases h1 : cf w f = 0
        · rw [decide_eq_true h1]; rfl
        · rw [decide_eq_false (show ¬ f.2.1 < 0 from fun z => hc ⟨h1, z⟩), Bool.and_false]
    · unfold dlo
      by_cases hc : cf w f ≠ 0 ∧ 0 < f.2.1
      · rw [if_pos hc]
        exact if_t ((c2 _).trans (by rw [decide_eq_false hc.1, decide_eq_true hc.2]; rfl)) (set_go (x := .nw (I (d + f.2.1))) (e_add (a := d) rfl (i1 _ d)) rfl (by simp [E]))
      · rw [if_neg hc, Int.add_zero]
        refine if_f ((c2 _).trans ?_) rfl
        congr 1
        by_cases h1 : cf w f = 0
        · rw [decide_eq_true h1]; rfl
        · rw [decide_eq_false (show ¬ 0 < f.2.1 from fun z => hc ⟨h1, z⟩), Bool.and_false]
  obtain ⟨r', hw, x, y, er⟩ := forL_spl (fg := gN 4) (F := (sIf (tOf (eOp gEq (eIx (eVar 4) (eC (.int 0))) (eC (.str "choose")))) (sSeq (sIf (tOf (eOp gNe (eIx (eIx (eVar 4) (eC (.int 1))) (eVar 1)) (eC (.int 0)))) (sSet 2 false (eOp gAddA (eVar 2) (eIx (eIx (eVar 4) (eC (.int 1))) (eC (.int 1))))) sNil) (sFor (iLst (eCall M__law_lows (aCons (eVar 4) aNil))) (gN 5) G)) sNil))
    (g := fun p => .nw (.fz (ptD p))) (P := fun d r => ∃ x y, r = E ((d.map (udg w)).sum) ((d.map (ddg w)).sum) x y) ps [] (E 0 0 .un .un) ⟨.un, .un, rfl⟩ (fun d p e r he ⟨x, y, hr⟩ => by
      subst hr
      let P1 : S := .vl true (.fz (ptD p))
      generalize hu : (d.map (udg w)).sum = u
      generalize hd : (d.map (ddg w)).sum = v
      have eu : ((d ++ [p]).map (udg w)).sum = u + udg w p := by simp [hu]
      have ed : ((d ++ [p]).map (ddg w)).sum = v + ddg w p := by simp [hd]
      have tc := t_isch (i := 4) (r := E u v P1 y) (p := p) rfl
      cases hc : isCh p with
      | false =>
        rw [hc] at tc
        refine ⟨E u v P1 y, E u v P1 y, by simp [E, P1], if_f tc rfl, P1, y, ?_⟩
        rw [eu, ed]
        cases p with
        | ch a b => cases hc
        | _ => simp [udg, ddg]
      | true =>
        rw [hc] at tc
        obtain ⟨h, l, rfl⟩ := isCh_ex hc
        have a1 : ∀ u, eIx (eVar 4) (eC (.int 1)) (E u v P1 y) = .ok (.nw (.fz (t3 h))) := fun u => ix_t 1 (ds := [.str "choose", t3 h, t3 l]) rfl rfl
        let u1 : Int := u + (if cf w h = 0 then 0 else h.2.1)
        have s1 : sIf (tOf (eOp gNe (eIx (eIx (eVar 4) (eC (.int 1))) (eVar 1)) (eC (.int 0)))) (sSet 2 false (eOp gAddA (eVar 2) (eIx (eIx (eVar 4) (eC (.int 1))) (eC (.int 1))))) sNil (E u v P1 y) = .nx (E u1 v P1 y) := by
          have tn := t_ne (ix_pl (w := w) (g := eVar 1) (a1 u) rfl) (eC_ev (.int 0))
          by_cases h0 : cf w h = 0
          · refine if_f (tn.trans (by rw [decide_eq_true h0]; rfl)) ?_
            show _ = Out.nx (E (u + (if cf w h = 0 then 0 else h.2.1)) v P1 y)
            rw [if_pos h0, Int.add_zero]; rfl
          · refine if_t (tn.trans (by rw [decide_eq_false h0]; rfl)) (set_go (x := .nw (I u1)) ?_ rfl (by simp [E]))
            show _ = Res.ok (DL.R.nw (I (u + (if cf w h = 0 then 0 else h.2.1))))
            rw [if_neg h0]
            exact e_add (a := u) rfl (ix_t 1 (ds := [.int h.1, .int h.2.1, .int h.2.2]) (a1 u) rfl)
        refine ⟨E u v P1 y, E (u1 + ulo w l + ulo w (dif3 h l)) (v + dlo w l + dlo w (dif3 h l)) P1 (.vl true (.fz (t3 (dif3 h l)))), by simp [E, P1], if_t tc (seq_go s1 (for_go (llows_its (h := h) (l := l) rfl) (forL_two (r1 := E u1 v P1 (.vl true (.fz (t3 l)))) (r2 := E (u1 + ulo w l) (v + dlo w l) P1 (.vl true (.fz (t3 l)))) (r3 := E (u1 + ulo w l) (v + dlo w l) P1 (.vl true (.fz (t3 (dif3 h l))))) rfl (one _ _ _ l) rfl (one _ _ _ (dif3 h l))))), P1, .vl true (.fz (t3 (dif3 h l))), ?_⟩
        rw [eu, ed, udg_ch, show ddg w (.ch h l) = dlo w l + dlo w (dif3 h l) from rfl]
        simp only [u1, Int.add_assoc])
  subst er
  show runF 6 B__law_up_and_down _ = _
  unfold B__law_up_and_down
  exact run_ret (seq_go (r' := [.vl false (.fz (LPt ps)), .vl false (I (pl w)), VI 0, .un, .un, .un]) (set_go (eC_ev _) rfl (by simp [startE])) (seq_go (r' := E 0 0 .un .un) (set_go (eC_ev _) rfl (by simp)) (seq_go (for_go hi hw) (ret_go (max2_ev rfl rfl)))))
theorem t_iswt {i : Nat} {r : Env} {p : Pt} (h : eVar i r = .ok (.nw (.fz (ptD p)))) : tOf (eOp gEq (eIx (eVar i) (eC (.int 0))) (eC (.str "weight"))) r = .ok (match p with | .wt _ => true | _ => false) := by
  have p1 : plainD 0 (.str "choose") = true := by decide +kernel
  have p2 : plainD 0 (.str "weight") = true := by decide +kernel
  have p3 : plainD 0 (.str "power") = true := by decide +kernel
  have p4 : plainD 0 (.str "growth") = true := by decide +kernel
  have go : ∀ (x : PySem.Str) (ds : List D), plainD 0 (.str x) = true → ptD p = .tup (.str x :: ds) → tOf (eOp gEq (eIx (eVar i) (eC (.int 0))) (eC (.str "weight"))) r = .ok (decide (x = "weight")) := fun x ds hx e => by
    rw [e] at h
    have e0 : eIx (eVar i) (eC (.int 0)) r = .ok (.nw (.fz (.str x))) := ix_t 0 h rfl
    exact t_str e0 hx p2
  cases p with
  | ch a b => rw [go "choose" _ p1 rfl]; rfl
  | wt f => rw [go "weight" _ p2 rfl]; rfl
  | pw f => rw [go "power" _ p3 rfl]; rfl
  | gr f => rw [go "growth" _ p4 rfl]; rfl
theorem zf_eq (f : T3) : decide (f = ((0, 0, 0) : T3)) = zf f := by
  obtain ⟨a, b, c⟩ := f
  unfold zf
  simp [Prod.mk.injEq, Bool.and_assoc]
theorem lstep_ok {ps : List Pt} (hp : ∀ p ∈ ps, okPt p) (hl : ps.length ≤ 6) (w : Bool) {i far : Int} (hi : 0 ≤ i ∧ i ≤ far) (hf : far ≤ 2) : M__law_step [.fz (LPt ps), I i, I far, I (pl w)] = .ok (I (sEx w ps i far)) := by
  let E (u : Int) (x y : S) : Env := [.vl false (.fz (LPt ps)), .vl false (I i), .vl false (I far), .vl false (I (pl w)), VI u, x, y]
  have hit : iLst (eVar 0) (E 0 .un .un) = .ok (ps.map fun p => .nw (.fz (ptD p))) := by
    rw [iLst_ds (ds := ps.map ptD) rfl, List.map_map]; rfl
  let G : FS := (sIf (tOf (eOp gNe (eIx (eVar 6) (eVar 3)) (eC (.int 0)))) (sSet 4 false (eOp gSub (eOp gAddA (eVar 4) (eOp gMulA (eB gMax2 (aCons (eC (.int 0)) (aCons (eIx (eVar 6) (eC (.int 0))) aNil))) (eVar 2))) (eOp gMulA (eIx (eVar 6) (eC (.int 0))) (eVar 1)))) sNil)
  have one : ∀ (u : Int) (x : S) (f : T3), okLo f → G (E u x (.vl true (.fz (t3 f)))) = .nx (E (u + slo w f i far) x (.vl true (.fz (t3 f)))) := fun u x f ho => by
    have ip : eIx (eVar 6) (eVar 3) (E u x (.vl true (.fz (t3 f)))) = .ok (.nw (I (cf w f))) := ix_pl rfl rfl
    have i0 : eIx (eVar 6) (eC (.int 0)) (E u x (.vl true (.fz (t3 f)))) = .ok (.nw (I f.1)) := ix_t 0 (ds := [.int f.1, .int f.2.1, .int f.2.2]) rfl rfl
    have tn := t_ne ip (eC_ev (.int 0))
    unfold okLo at ho
    have hb := mx0_b (a := f.1) (by omega)
    unfold slo
    by_cases h0 : cf w f = 0
    · rw [if_pos h0, Int.add_zero]
      exact if_f (tn.trans (by rw [decide_eq_true h0]; rfl)) rfl
    · rw [if_neg h0]
      refine if_t (tn.trans (by rw [decide_eq_false h0]; rfl)) (set_go (x := .nw (I (u + (mx0 f.1 * far - f.1 * i)))) ?_ rfl (by simp [E]))
      rw [show u + (mx0 f.1 * far - f.1 * i) = (u + mx0 f.1 * far) - f.1 * i by omega]
      exact e_sub (e_add rfl (e_mul (b := far) 10 10 (max0_ev i0) rfl (by omega) (by omega))) (e_mul (b := i) 10 10 i0 rfl (by omega) (by omega))
  let F : FS := (sSeq (sIf (tOf (eOp gEq (eIx (eVar 5) (eC (.int 0))) (eC (.str "weight")))) (sSeq (sIf (tOf (eOp gEq (eIx (eVar 5) (eC (.int 1))) (eTup (aCons (eC (.int 0)) (aCons (eC (.int 0)) (aCons (eC (.int 0)) aNil)))))) (sRet (eC (.int 0))) sNil) (sSet 4 false (eOp gAddA (eVar 4) (eB gIntB (aCons (eOp gNe (eIx (eIx (eVar 5) (eC (.int 1))) (eVar 3)) (eC (.int 0))) aNil))))) sNil) (sIf (tOf (eOp gEq (eIx (eVar 5) (eC (.int 0))) (eC (.str "choose")))) (sSeq (sIf (tOf (eOp gNe (eIx (eIx (eVar 5) (eC (.int 1))) (eVar 3)) (eC (.int 0)))) (sSet 4 false (eOp gAddA (eVar 4) (eOp gMulA (eVar 1) (eIx (eIx (eVar 5) (eC (.int 1))) (eC (.int 0)))))) sNil) (sFor (iLst (eCall M__law_lows (aCons (eVar 5) aNil))) (gN 6) G)) sNil))
  have step : ∀ (p : Pt) (u : Int) (y : S), okPt p → (zPt p = true → F (E u (.vl true (.fz (ptD p))) y) = .ret (I 0)) ∧ (zPt p = false → ∃ y', F (E u (.vl true (.fz (ptD p))) y) = .nx (E (u + sdg w i far p) (.vl true (.fz (ptD p))) y')) := fun p u y ho => by
    have tw := t_iswt (i := 5) (r := E u (.vl true (.fz (ptD p))) y) (p := p) rfl
    have tc := t_isch (i := 5) (r := E u (.vl true (.fz (ptD p))) y) (p := p) rfl
    cases p with
    | ch h l =>
      refine ⟨(fun z => by cases z), fun _ => ?_⟩
      obtain ⟨q1, q2, q3⟩ := okCh.lo ho
      let P1 : S := .vl true (.fz (ptD (.ch h l)))
      have a1 : eIx (eVar 5) (eC (.int 1)) (E u P1 y) = .ok (.nw (.fz (t3 h))) := ix_t 1 (ds := [.str "choose", t3 h, t3 l]) rfl rfl
      let u1 : Int := u + (if cf w h = 0 then 0 else i * h.1)
      have s1 : sIf (tOf (eOp gNe (eIx (eIx (eVar 5) (eC (.int 1))) (eVar 3)) (eC (.int 0)))) (sSet 4 false (eOp gAddA (eVar 4) (eOp gMulA (eVar 1) (eIx (eIx (eVar 5) (eC (.int 1))) (eC (.int 0)))))) sNil (E u P1 y) = .nx (E u1 P1 y) := by
        have tn := t_ne (ix_pl (w := w) (g := eVar 3) a1 rfl) (eC_ev (.int 0))
        have i0 : eIx (eIx (eVar 5) (eC (.int 1))) (eC (.int 0)) (E u P1 y) = .ok (.nw (I h.1)) := ix_t 0 (ds := [.int h.1, .int h.2.1, .int h.2.2]) a1 rfl
        unfold okLo at q3
        by_cases h0 : cf w h = 0
        · refine if_f (tn.trans (by rw [decide_eq_true h0]; rfl)) ?_
          show _ = Out.nx (E (u + (if cf w h = 0 then 0 else i * h.1)) P1 y)
          rw [if_pos h0, Int.add_zero]; rfl
        · refine if_t (tn.trans (by rw [decide_eq_false h0]; rfl)) (set_go (x := .nw (I u1)) ?_ rfl (by simp [E]))
          show _ = Res.ok (DL.R.nw (I (u + (if cf w h = 0 then 0 else i * h.1))))
          rw [if_neg h0]
          exact e_add (a := u) rfl (e_mul (a := i) 10 10 rfl i0 (by omega) (by omega))
      refine ⟨.vl true (.fz (t3 (dif3 h l))), ?_⟩
      have e : sdg w i far (.ch h l) = (if cf w h = 0 then 0 else i * h.1) + slo w l i far + slo w (dif3 h l) i far := rfl
      rw [e, ← Int.add_assoc, ← Int.add_assoc]
      exact seq_go (if_f tw rfl) (if_t tc (seq_go s1 (for_go (llows_its (h := h) (l := l) rfl) (forL_two (r1 := E u1 P1 (.vl true (.fz (t3 l)))) (r2 := E (u1 + slo w l i far) P1 (.vl true (.fz (t3 l)))) (r3 := E (u1 + slo w l i far) P1 (.vl true (.fz (t3 (dif3 h l))))) rfl (one _ _ l q1) rfl (one _ _ (dif3 h l) q2)))))
    | wt f =>
      let P1 : S := .vl true (.fz (ptD (.wt f)))
      have a1 : eIx (eVar 5) (eC (.int 1)) (E u P1 y) = .ok (.nw (.fz (t3 f))) := ix_t 1 (ds := [.str "weight", t3 f]) rfl rfl
      have tz : tOf (eOp gEq (eIx (eVar 5) (eC (.int 1))) (eTup (aCons (eC (.int 0)) (aCons (eC (.int 0)) (aCons (eC (.int 0)) aNil))))) (E u P1 y) = .ok (zf f) := by
        rw [tOf_ev, op_of a1 (y := .nw (.fz (t3 (0, 0, 0)))) rfl]
        show (gEq (.fz (t3 f)) (.fz (t3 (0, 0, 0)))).bind toB = _
        rw [gEq_t3, zf_eq]; rfl
      refine ⟨fun z => ?_, fun z => ?_⟩
      · have z' : zf f = true := z
        rw [z'] at tz
        exact seq_ret (if_t tw (seq_ret (if_t tz (ret_go (eC_ev _)))))
      · have z' : zf f = false := z
        rw [z'] at tz
        have en : eOp gNe (eIx (eIx (eVar 5) (eC (.int 1))) (eVar 3)) (eC (.int 0)) (E u P1 y) = .ok (.nw (.fz (.bl (!decide (cf w f = 0))))) := by
          rw [op_of (ix_pl (w := w) (g := eVar 3) a1 rfl) (eC_ev (.int 0))]; rfl
        have e : (if (!decide (cf w f = 0)) = true then (1 : Int) else 0) = sdg w i far (.wt f) := by
          show _ = if cf w f = 0 then (0 : Int) else 1
          by_cases h0 : cf w f = 0
          · simp [h0]
          · simp [h0]
        have ei := int_ev en
        rw [e] at ei
        exact ⟨y, seq_go (r' := E (u + sdg w i far (.wt f)) P1 y) (if_t tw (seq_go (if_f tz rfl) (set_go (x := .nw (I (u + sdg w i far (.wt f)))) (e_add (a := u) rfl ei) rfl (by simp [E])))) (if_f (t_isch (i := 5) (p := .wt f) rfl) rfl)⟩
    | pw f =>
      refine ⟨(fun z => by cases z), fun _ => ⟨y, ?_⟩⟩
      rw [show sdg w i far (.pw f) = 0 from rfl, Int.add_zero]
      exact seq_go (if_f tw rfl) (if_f tc rfl)
    | gr f =>
      refine ⟨(fun z => by cases z), fun _ => ⟨y, ?_⟩⟩
      rw [show sdg w i far (.gr f) = 0 from rfl, Int.add_zero]
      exact seq_go (if_f tw rfl) (if_f tc rfl)
  have walk : ∀ (qs : List Pt) (u : Int) (x y : S), (∀ p ∈ qs, okPt p) → (qs.any zPt = true → forL (gN 5) F (qs.map fun p => .nw (.fz (ptD p))) (E u x y) = .ret (I 0)) ∧ (qs.any zPt = false → ∃ x' y', forL (gN 5) F (qs.map fun p => .nw (.fz (ptD p))) (E u x y) = .nx (E (u + (qs.map (sdg w i far)).sum) x' y')) := fun qs => by
    induction qs with
    | nil => exact fun u x y _ => ⟨(fun z => by cases z), fun _ => ⟨x, y, by simp [forL]⟩⟩
    | cons p qs ih =>
      intro u x y ho
      obtain ⟨s1, s2⟩ := step p u y (ho p List.mem_cons_self)
      have hg : gN 5 (.nw (.fz (ptD p))) (E u x y) = some (E u (.vl true (.fz (ptD p))) y) := by simp [E]
      cases hz : zPt p with
      | true =>
        refine ⟨fun _ => ?_, fun z => by rw [List.any_cons, hz] at z; cases z⟩
        rw [List.map_cons]
        exact forL_ret hg (s1 hz)
      | false =>
        obtain ⟨y', e'⟩ := s2 hz
        obtain ⟨i1, i2⟩ := ih (u + sdg w i far p) (.vl true (.fz (ptD p))) y' fun q hq => ho q (List.mem_cons_of_mem _ hq)
        rw [List.any_cons, hz, Bool.false_or, List.map_cons, forL_cons hg e', List.map_cons, List.sum_cons, ← Int.add_assoc]
        exact ⟨i1, i2⟩
  obtain ⟨w1, w2⟩ := walk ps 0 .un .un hp
  show runF 7 B__law_step _ = _
  unfold B__law_step sEx
  cases hz : ps.any zPt with
  | true => exact run_ret (seq_go (r' := E 0 .un .un) (set_go (eC_ev _) rfl (by simp [startE])) (seq_ret (for_go hit (w1 hz))))
  | false =>
    obtain ⟨x', y', e'⟩ := w2 hz
    rw [Int.zero_add] at e'
    exact run_ret (seq_go (r' := E 0 .un .un) (set_go (eC_ev _) rfl (by simp [startE])) (seq_go (for_go hit e') rfl))
theorem ch_ev {f g : FE} {r : Env} {h l : T3} (h1 : f r = .ok (.nw (.fz (t3 h)))) (h2 : g r = .ok (.nw (.fz (t3 l)))) : eTup (aCons (eC (.str "choose")) (aCons f (aCons g aNil))) r = .ok (.nw (.fz (ptD (.ch h l)))) := by
  simp only [eTup, aCons_ev, eC_ev, h1, h2, res_ok, aNil_ev]; rfl
theorem lany_ok (a b : Int) : ∃ h l : T3, M__law_any [I a, I b] = .ok (.fz (ptD (.ch h l))) ∧ okCh h l := by
  have r0 := fmod_rg (a := a) (b := 3) (by omega)
  have r1 := fmod_rg (a := a.fdiv 3) (b := 3) (by omega)
  have r2 := fmod_rg (a := a.fdiv 9) (b := 3) (by omega)
  have q0 := fmod_rg (a := b) (b := 5) (by omega)
  have q1 := fmod_rg (a := b.fdiv 5) (b := 5) (by omega)
  have q2 := fmod_rg (a := b.fdiv 25) (b := 5) (by omega)
  let h : T3 := (a.fmod 3, (a.fdiv 3).fmod 3, (a.fdiv 9).fmod 3)
  let l : T3 := (b.fmod 5 - 2, (b.fdiv 5).fmod 5 - 2, (b.fdiv 25).fmod 5 - 2)
  let A : S := .vl false (I a)
  let B : S := .vl false (I b)
  let H : S := .vl true (.fz (t3 h))
  let L : S := .vl true (.fz (t3 l))
  have s1 : sSet 2 false (eTup (aCons (eOp gMod (eVar 0) (eC (.int 3))) (aCons (eOp gMod (eOp gDiv (eVar 0) (eC (.int 3))) (eC (.int 3))) (aCons (eOp gMod (eOp gDiv (eVar 0) (eC (.int 9))) (eC (.int 3))) aNil)))) [A, B, .un, .un, .un] = .nx [A, B, H, .un, .un] :=
    set_go (x := .nw (.fz (t3 h))) (e_t3 (e_mod rfl (by omega)) (e_mod (e_div rfl (by omega) (by omega)) (by omega)) (e_mod (e_div rfl (by omega) (by omega)) (by omega))) rfl (by simp)
  have s2 : sSet 3 false (eTup (aCons (eOp gSub (eOp gMod (eVar 1) (eC (.int 5))) (eC (.int 2))) (aCons (eOp gSub (eOp gMod (eOp gDiv (eVar 1) (eC (.int 5))) (eC (.int 5))) (eC (.int 2))) (aCons (eOp gSub (eOp gMod (eOp gDiv (eVar 1) (eC (.int 25))) (eC (.int 5))) (eC (.int 2))) aNil)))) [A, B, H, .un, .un] = .nx [A, B, H, L, .un] :=
    set_go (x := .nw (.fz (t3 l))) (e_t3 (e_sub (e_mod rfl (by omega)) (eC_ev _)) (e_sub (e_mod (e_div rfl (by omega) (by omega)) (by omega)) (eC_ev _)) (e_sub (e_mod (e_div rfl (by omega) (by omega)) (by omega)) (eC_ev _))) rfl (by simp)
  have eI : iLst (eLst (aCons (eVar 3) (aCons (eCall M__law_less (aCons (eVar 2) (aCons (eVar 3) aNil))) aNil))) [A, B, H, L, .un] = .ok [.nw (.fz (t3 l)), .nw (.fz (t3 (dif3 h l)))] := by
    have c : eCall M__law_less (aCons (eVar 2) (aCons (eVar 3) aNil)) [A, B, H, L, .un] = .ok (.nw (.fz (t3 (dif3 h l)))) := call2 (x := .nw (.fz (t3 h))) (y := .nw (.fz (t3 l))) rfl rfl (lless_ok h l)
    have v : eVar 3 [A, B, H, L, .un] = .ok (.nw (.fz (t3 l))) := rfl
    have : eLst (aCons (eVar 3) (aCons (eCall M__law_less (aCons (eVar 2) (aCons (eVar 3) aNil))) aNil)) [A, B, H, L, .un] = .ok (.nw (.ls [.fz (t3 l), .fz (t3 (dif3 h l))])) := by
      simp only [eLst, aCons_ev, v, c, res_ok, aNil_ev, ra_nw, er_fz]; rfl
    simp only [iLst, this, res_ok]; rfl
  have tb : ∀ f : T3, tAndD (tOf (eOp gEq (eIx (eVar 4) (eC (.int 0))) (eC (.int 0)))) (tOf (eOp gLt (eIx (eVar 4) (eC (.int 1))) (eC (.int 0)))) [A, B, H, L, .vl true (.fz (t3 f))] = .ok (decide (f.1 = 0) && decide (f.2.1 < 0)) := fun f => t_andT (t_eq (ix_t 0 (ds := [.int f.1, .int f.2.1, .int f.2.2]) rfl rfl) (eC_ev _)) (fun _ => t_lt (ix_t 1 (ds := [.int f.1, .int f.2.1, .int f.2.2]) rfl rfl) (eC_ev _))
  have pr : ∀ r : Env, eTup (aCons (eC (.str "choose")) (aCons (eTup (aCons (eC (.int 1)) (aCons (eC (.int 0)) (aCons (eC (.int 0)) aNil)))) (aCons (eTup (aCons (eC (.int 0)) (aCons (eC (.int 1)) (aCons (eC (.int 0)) aNil)))) aNil))) r = .ok (.nw (.fz (ptD (.ch (1, 0, 0) (0, 1, 0))))) := fun r => ch_ev (e_t3 (eC_ev _) (eC_ev _) (eC_ev _)) (e_t3 (eC_ev _) (eC_ev _) (eC_ev _))
  have ok1 : okCh (1, 0, 0) (0, 1, 0) := by unfold okCh; decide
  have st : startE 5 [I a, I b] = [A, B, .un, .un, .un] := rfl
  cases c1 : (decide (l.1 = 0) && decide (l.2.1 < 0)) with
  | true =>
    refine ⟨(1, 0, 0), (0, 1, 0), ?_, ok1⟩
    show runF 5 B__law_any _ = _
    unfold B__law_any
    refine run_ret ?_
    rw [st]
    exact seq_go s1 (seq_go s2 (seq_ret (for_go eI (forL_ret (r1 := [A, B, H, L, .vl true (.fz (t3 l))]) rfl (if_t ((tb l).trans (by rw [c1])) (ret_go (pr _)))))))
  | false =>
    cases c2 : (decide ((dif3 h l).1 = 0) && decide ((dif3 h l).2.1 < 0)) with
    | true =>
      refine ⟨(1, 0, 0), (0, 1, 0), ?_, ok1⟩
      show runF 5 B__law_any _ = _
      unfold B__law_any
      refine run_ret ?_
      rw [st]
      refine seq_go s1 (seq_go s2 (seq_ret (for_go eI ?_)))
      refine Eq.trans (forL_cons (r1 := [A, B, H, L, .vl true (.fz (t3 l))]) (r' := [A, B, H, L, .vl true (.fz (t3 l))]) rfl (if_f ((tb l).trans (by rw [c1])) rfl)) ?_
      exact forL_ret (r1 := [A, B, H, L, .vl true (.fz (t3 (dif3 h l)))]) rfl (if_t ((tb _).trans (by rw [c2])) (ret_go (pr _)))
    | false =>
      refine ⟨h, l, ?_, ?_⟩
      · show runF 5 B__law_any _ = _
        unfold B__law_any
        refine run_ret ?_
        rw [st]
        refine seq_go s1 (seq_go s2 (seq_go (r' := [A, B, H, L, .vl true (.fz (t3 (dif3 h l)))]) (for_go eI ?_) (ret_go (ch_ev rfl rfl))))
        refine Eq.trans (forL_cons (r1 := [A, B, H, L, .vl true (.fz (t3 l))]) (r' := [A, B, H, L, .vl true (.fz (t3 l))]) rfl (if_f ((tb l).trans (by rw [c1])) rfl)) ?_
        exact Eq.trans (forL_cons (r1 := [A, B, H, L, .vl true (.fz (t3 (dif3 h l)))]) (r' := [A, B, H, L, .vl true (.fz (t3 (dif3 h l)))]) rfl (if_f ((tb _).trans (by rw [c2])) rfl)) rfl
      · simp only [Bool.and_eq_false_iff, decide_eq_false_iff_not] at c1 c2
        simp only [dif3] at c2
        unfold okCh
        dsimp only [h, l] at c1 c2 ⊢
        omega
theorem lchoose_ok (ns : List Int) {k : Int} (hk : 0 ≤ k ∧ k < 1000) : ∃ h l : T3, M__law_choose [.fz (.scr ns), I k] = .ok (.fz (ptD (.ch h l))) ∧ okCh h l := by
  obtain ⟨c, hc⟩ : ∃ c, c = cellAt ns k := ⟨_, rfl⟩
  have r0 := fmod_rg (a := c) (b := 8) (by omega)
  have r1 := fmod_rg (a := c.fdiv 8) (b := 3) (by omega)
  generalize hx : c.fmod 8 = x at *
  generalize hj : (c.fdiv 8).fmod 3 = j at *
  let R : Env := [scrS ns, .vl false (I k), VI c, VI x, VI j]
  have s1 : sSet 2 false (eCall M__law_cell_at (aCons (eVar 0) (aCons (eVar 1) aNil))) [scrS ns, .vl false (I k), .un, .un, .un] = .nx [scrS ns, .vl false (I k), VI c, .un, .un] := set_go (x := .nw (I c)) (by rw [hc]; exact cell_e hk.1 rfl) rfl (by simp)
  have s2 : sSet 3 false (eOp gMod (eVar 2) (eC (.int 8))) [scrS ns, .vl false (I k), VI c, .un, .un] = .nx [scrS ns, .vl false (I k), VI c, VI x, .un] := set_go (x := .nw (I x)) (by rw [← hx]; exact e_mod rfl (by omega)) rfl (by simp)
  have s3 : sSet 4 false (eOp gMod (eOp gDiv (eVar 2) (eC (.int 8))) (eC (.int 3))) [scrS ns, .vl false (I k), VI c, VI x, .un] = .nx R := set_go (x := .nw (I j)) (by rw [← hj]; exact e_mod (e_div rfl (by omega) (by omega)) (by omega)) rfl (by simp)
  have t2 : tOf (eOp gLt (eVar 3) (eC (.int 2))) R = .ok (decide (x < 2)) := t_lt rfl (eC_ev _)
  have te : ∀ a : Int, tOf (eOp gEq (eVar 3) (eC (.int a))) R = .ok (decide (x = a)) := fun a => t_eq rfl (eC_ev _)
  have c3 : ∀ a b d : Int, eTup (aCons (eC (.int a)) (aCons (eC (.int b)) (aCons (eC (.int d)) aNil))) R = .ok (.nw (.fz (t3 (a, b, d)))) := fun a b d => e_t3 (eC_ev _) (eC_ev _) (eC_ev _)
  have cj : ∀ a b : Int, eTup (aCons (eC (.int a)) (aCons (eC (.int b)) (aCons (eVar 4) aNil))) R = .ok (.nw (.fz (t3 (a, b, j)))) := fun a b => e_t3 (eC_ev _) (eC_ev _) rfl
  have cm : eTup (aCons (eC (.int 0)) (aCons (eC (.int 2)) (aCons (eOp gSub (eVar 4) (eC (.int 1))) aNil))) R = .ok (.nw (.fz (t3 (0, 2, j - 1)))) := e_t3 (eC_ev _) (eC_ev _) (e_sub rfl (eC_ev _))
  have go : ∀ {h l : T3} {F : FS}, F R = .ret (.fz (ptD (.ch h l))) → B__law_choose = sSeq (sSet 2 false (eCall M__law_cell_at (aCons (eVar 0) (aCons (eVar 1) aNil)))) (sSeq (sSet 3 false (eOp gMod (eVar 2) (eC (.int 8)))) (sSeq (sSet 4 false (eOp gMod (eOp gDiv (eVar 2) (eC (.int 8))) (eC (.int 3)))) F)) → M__law_choose [.fz (.scr ns), I k] = .ok (.fz (ptD (.ch h l))) := fun {h l F} hF e => by
    show runF 5 B__law_choose _ = _
    rw [e]
    exact run_ret (seq_go s1 (seq_go s2 (seq_go s3 hF)))
  by_cases h2 : x < 2
  · rw [decide_eq_true h2] at t2
    exact ⟨(1, 0, j), (0, 1, 0), go (seq_ret (if_t t2 (ret_go (ch_ev (cj 1 0) (c3 0 1 0))))) rfl, by unfold okCh; dsimp only; omega⟩
  · rw [decide_eq_false h2] at t2
    by_cases e2 : x = 2
    · exact ⟨(1, 1, j), (0, 1, 0), go (seq_go (if_f t2 rfl) (seq_ret (if_t ((te 2).trans (by rw [decide_eq_true e2])) (ret_go (ch_ev (cj 1 1) (c3 0 1 0)))))) rfl, by unfold okCh; dsimp only; omega⟩
    · by_cases e3 : x = 3
      · exact ⟨(1, 0, 0), (0, 2, j - 1), go (seq_go (if_f t2 rfl) (seq_go (if_f ((te 2).trans (by rw [decide_eq_false e2])) rfl) (seq_ret (if_t ((te 3).trans (by rw [decide_eq_true e3])) (ret_go (ch_ev (c3 1 0 0) cm)))))) rfl, by unfold okCh; dsimp only; omega⟩
      · by_cases e4 : x = 4
        · exact ⟨(1, 1, 0), (0, 2, 0), go (seq_go (if_f t2 rfl) (seq_go (if_f ((te 2).trans (by rw [decide_eq_false e2])) rfl) (seq_go (if_f ((te 3).trans (by rw [decide_eq_false e3])) rfl) (seq_ret (if_t ((te 4).trans (by rw [decide_eq_true e4])) (ret_go (ch_ev (c3 1 1 0) (c3 0 2 0)))))))) rfl, by unfold okCh; decide⟩
        · by_cases e5 : x = 5
          · exact ⟨(2, 0, j), (1, 0, 0), go (seq_go (if_f t2 rfl) (seq_go (if_f ((te 2).trans (by rw [decide_eq_false e2])) rfl) (seq_go (if_f ((te 3).trans (by rw [decide_eq_false e3])) rfl) (seq_go (if_f ((te 4).trans (by rw [decide_eq_false e4])) rfl) (seq_ret (if_t ((te 5).trans (by rw [decide_eq_true e5])) (ret_go (ch_ev (cj 2 0) (c3 1 0 0))))))))) rfl, by unfold okCh; dsimp only; omega⟩
          · obtain ⟨h, l, ea, ok⟩ := lany_ok (c.fdiv 8) (cellAt ns (k + 1))
            refine ⟨h, l, go (seq_go (if_f t2 rfl) (seq_go (if_f ((te 2).trans (by rw [decide_eq_false e2])) rfl) (seq_go (if_f ((te 3).trans (by rw [decide_eq_false e3])) rfl) (seq_go (if_f ((te 4).trans (by rw [decide_eq_false e4])) rfl) (seq_go (if_f ((te 5).trans (by rw [decide_eq_false e5])) rfl) (ret_go (call2 (x := .nw (I (c.fdiv 8))) (y := .nw (I (cellAt ns (k + 1)))) (e_div rfl (by omega) (by omega)) (cell_e (by omega) (e_add rfl (eC_ev _))) ea))))))) rfl, ok⟩
theorem lfrac_ok (c : Int) : ∃ p : Int × Int, M__law_fraction [I c] = .ok (.fz (fD p)) ∧ okFr p := by
  have r0 := fmod_rg (a := c) (b := 7) (by omega)
  have em : eOp gMod (eVar 0) (eC (.int 7)) [.vl false (I c)] = .ok (.nw (I (c.fmod 7))) := e_mod rfl (by omega)
  have go : ∀ (k : Int) (p : Int × Int), c.fmod 7 = k → atI ([(1, 1), (-1, 1), (2, 1), (1, 2), (-3, 2), (5, 3), (-7, 1)].map fun p : Int × Int => O.fz (fD p)) k = some (.fz (fD p)) → okFr p → ∃ p : Int × Int, M__law_fraction [I c] = .ok (.fz (fD p)) ∧ okFr p := fun k p hk ha ok => by
    refine ⟨p, ?_, ok⟩
    rw [hk] at em
    show runF 1 B__law_fraction _ = _
    unfold B__law_fraction
    refine run_ret (ret_go (ix_nw (o := .ls ([(1, 1), (-1, 1), (2, 1), (1, 2), (-3, 2), (5, 3), (-7, 1)].map fun p : Int × Int => O.fz (fD p))) rfl em ?_))
    exact ha
  have : c.fmod 7 = 0 ∨ c.fmod 7 = 1 ∨ c.fmod 7 = 2 ∨ c.fmod 7 = 3 ∨ c.fmod 7 = 4 ∨ c.fmod 7 = 5 ∨ c.fmod 7 = 6 := by omega
  rcases this with h | h | h | h | h | h | h
  · exact go 0 (1, 1) h rfl (by unfold okFr; decide)
  · exact go 1 (-1, 1) h rfl (by unfold okFr; decide)
  · exact go 2 (2, 1) h rfl (by unfold okFr; decide)
  · exact go 3 (1, 2) h rfl (by unfold okFr; decide)
  · exact go 4 (-3, 2) h rfl (by unfold okFr; decide)
  · exact go 5 (5, 3) h rfl (by unfold okFr; decide)
  · exact go 6 (-7, 1) h rfl (by unfold okFr; decide)
theorem cutL_pre {α : Type} (xs : List α) (b : Nat) : cutL xs none (some (b : Int)) = xs.take b := by
  unfold cutL
  rw [HT.sIx_none, HT.sIx_nat, List.drop_zero]
  by_cases h : b ≤ xs.length
  · rw [Nat.min_eq_left h, Nat.sub_zero]
  · rw [Nat.min_eq_right (by omega), Nat.sub_zero, List.take_of_length_le (Nat.le_refl _), List.take_of_length_le (by omega)]
theorem cutL_suf {α : Type} (xs : List α) (a : Nat) : cutL xs (some (a : Int)) none = xs.drop a := by
  unfold cutL
  rw [HT.sIx_none, HT.sIx_nat]
  by_cases h : a ≤ xs.length
  · rw [Nat.min_eq_left h, List.take_of_length_le (by simp)]
  · rw [Nat.min_eq_right (by omega), List.drop_of_length_le (Nat.le_refl _), List.drop_of_length_le (by omega), List.take_nil]
theorem wt_ev {f : FE} {r : Env} {x : T3} (h1 : f r = .ok (.nw (.fz (t3 x)))) : eTup (aCons (eC (.str "weight")) (aCons f aNil)) r = .ok (.nw (.fz (ptD (.wt x)))) := by
  simp only [eTup, aCons_ev, eC_ev, h1, res_ok, aNil_ev]; rfl
theorem pw_ev {f : FE} {r : Env} {x : Int × Int} (h1 : f r = .ok (.nw (.fz (fD x)))) : eTup (aCons (eC (.str "power")) (aCons f aNil)) r = .ok (.nw (.fz (ptD (.pw x)))) := by
  simp only [eTup, aCons_ev, eC_ev, h1, res_ok, aNil_ev]; rfl
theorem gr_ev {f : FE} {r : Env} {x : Int × Int} (h1 : f r = .ok (.nw (.fz (fD x)))) : eTup (aCons (eC (.str "growth")) (aCons f aNil)) r = .ok (.nw (.fz (ptD (.gr x)))) := by
  simp only [eTup, aCons_ev, eC_ev, h1, res_ok, aNil_ev]; rfl
theorem parts_ok (ns : List Int) : ∃ ps : List Pt, M__law_parts [.fz (.scr ns)] = .ok (.ls (oPt ps)) ∧ (∀ p ∈ ps, okPt p) ∧ 1 ≤ ps.length ∧ ps.length ≤ 6 := by
  obtain ⟨c, hc⟩ : ∃ c, c = cellAt ns 0 := ⟨_, rfl⟩
  let E (ps : List Pt) (x y z : S) : Env := [scrS ns, VI c, .vl true (.ls (oPt ps)), x, y, z]
  have s1 : sSet 1 false (eCall M__law_cell_at (aCons (eVar 0) (aCons (eC (.int 0)) aNil))) [scrS ns, .un, .un, .un, .un, .un] = .nx [scrS ns, VI c, .un, .un, .un, .un] := set_go (x := .nw (I c)) (by rw [hc]; exact cell_c (by omega)) rfl (by simp)
  obtain ⟨h1, l1, e1, k1⟩ := lchoose_ok ns (k := 1) (by omega)
  obtain ⟨h2, l2, e2, k2⟩ := lchoose_ok ns (k := 3) (by omega)
  have cch : ∀ (k : Int) {h l : T3} (r : Env), M__law_choose [.fz (.scr ns), I k] = .ok (.fz (ptD (.ch h l))) → eCall M__law_choose (aCons (eVar 0) (aCons (eC (.int k)) aNil)) (scrS ns :: r) = .ok (.nw (.fz (ptD (.ch h l)))) := fun k h l r e => call2 (x := .nw (.fz (.scr ns))) (y := .nw (I k)) rfl (eC_ev _) e
  have ap : ∀ (ps : List Pt) (p : Pt) (f : FE) (x y z : S), ps.length ≤ 6 → f (E ps x y z) = .ok (.nw (.fz (ptD p))) → sApp 2 f (E ps x y z) = .nx (E (ps ++ [p]) x y z) := fun ps p f x y z hl hf => by
    have := app_ls (i := 2) (r := E ps x y z) (f := f) (os := oPt ps) (d := ptD p) rfl (allFz_oPt ps) (x := .nw (.fz (ptD p))) hf rfl (by rw [List.length_map]; omega)
    rw [this]
    simp [E, oPt]
  have s2 : sSet 2 true (eLst (aCons (eCall M__law_choose (aCons (eVar 0) (aCons (eC (.int 1)) aNil))) aNil)) [scrS ns, VI c, .un, .un, .un, .un] = .nx (E [.ch h1 l1] .un .un .un) := by
    refine set_go (x := .nw (.ls [.fz (ptD (.ch h1 l1))])) ?_ rfl (by simp)
    simp only [eLst, aCons_ev, cch 1 _ e1, res_ok, aNil_ev, ra_nw, er_fz]; rfl
  obtain ⟨qs, s3, g3, l3⟩ : ∃ qs : List Pt, sIf (tOf (eOp gEq (eOp gMod (eVar 1) (eC (.int 3))) (eC (.int 1)))) (sApp 2 (eCall M__law_choose (aCons (eVar 0) (aCons (eC (.int 3)) aNil)))) sNil (E [.ch h1 l1] .un .un .un) = .nx (E qs .un .un .un) ∧ (∀ p ∈ qs, okPt p) ∧ 1 ≤ qs.length ∧ qs.length ≤ 2 := by
    have tt : tOf (eOp gEq (eOp gMod (eVar 1) (eC (.int 3))) (eC (.int 1))) (E [.ch h1 l1] .un .un .un) = .ok (decide (c.fmod 3 = 1)) := t_eq (e_mod rfl (by omega)) (eC_ev _)
    by_cases h : c.fmod 3 = 1
    · rw [decide_eq_true h] at tt
      refine ⟨[.ch h1 l1, .ch h2 l2], if_t tt (ap [.ch h1 l1] (.ch h2 l2) _ _ _ _ (by simp) (cch 3 _ e2)), fun p hp => ?_, by simp, by simp⟩
      simp only [List.mem_cons, List.not_mem_nil, or_false] at hp
      rcases hp with rfl | rfl
      · exact k1
      · exact k2
    · rw [decide_eq_false h] at tt
      refine ⟨[.ch h1 l1], if_f tt rfl, fun p hp => ?_, by simp, by simp⟩
      rw [List.mem_singleton.mp hp]; exact k1
  have r3 := fmod_rg (a := c.fdiv 3) (b := 3) (by omega)
  obtain ⟨m, hm⟩ : ∃ m : Nat, (c.fdiv 3).fmod 3 = m := ⟨((c.fdiv 3).fmod 3).toNat, by omega⟩
  have ei := rng_ok (fs := aCons (eOp gMod (eOp gDiv (eVar 1) (eC (.int 3))) (eC (.int 3))) aNil) (r := E qs .un .un .un) (n := m) (by
    have : eOp gMod (eOp gDiv (eVar 1) (eC (.int 3))) (eC (.int 3)) (E qs .un .un .un) = .ok (.nw (I (m : Int))) := by rw [← hm]; exact e_mod (e_div rfl (by omega) (by omega)) (by omega)
    simp only [aCons_ev, this, res_ok, aNil_ev]; rfl) (by omega)
  obtain ⟨r4, e4, ps4, x4, y4, er4, g4, l4⟩ := forL_inv (fg := gN 3) (F := (sSeq (sSet 4 false (eCall M__law_cell_at (aCons (eVar 0) (aCons (eOp gAddA (eC (.int 5)) (eVar 3)) aNil)))) (sApp 2 (eTup (aCons (eC (.str "weight")) (aCons (eTup (aCons (eOp gSub (eOp gMod (eVar 4) (eC (.int 5))) (eC (.int 2))) (aCons (eOp gSub (eOp gMod (eOp gDiv (eVar 4) (eC (.int 5))) (eC (.int 5))) (eC (.int 2))) (aCons (eOp gSub (eOp gMod (eOp gDiv (eVar 4) (eC (.int 25))) (eC (.int 5))) (eC (.int 2))) aNil)))) aNil)))))) (its := (List.range m).map fun (j : Nat) => intR (j : Int)) (r := E qs .un .un .un)
    (fun i r => ∃ (ps : List Pt) (x y : S), r = E ps x y .un ∧ (∀ p ∈ ps, okPt p) ∧ ps.length = qs.length + i) ⟨qs, .un, .un, rfl, g3, rfl⟩ (fun i z r hz ⟨ps, x, y, hr, hg, hl⟩ => by
      subst hr
      obtain ⟨hi, rfl⟩ : i < m ∧ z = intR (i : Int) := by
        rw [List.getElem?_map] at hz
        cases hj : (List.range m)[i]? with
        | none => rw [hj] at hz; cases hz
        | some j =>
          rw [hj] at hz
          obtain ⟨h1, h2⟩ := List.getElem?_eq_some_iff.mp hj
          simp at h1 h2
          subst h2
          exact ⟨by omega, (Option.some.inj hz).symm⟩
      obtain ⟨d, hd⟩ : ∃ d, d = cellAt ns (5 + (i : Int)) := ⟨_, rfl⟩
      have q0 := fmod_rg (a := d) (b := 5) (by omega)
      have q1 := fmod_rg (a := d.fdiv 5) (b := 5) (by omega)
      have q2 := fmod_rg (a := d.fdiv 25) (b := 5) (by omega)
      have sc : sSet 4 false (eCall M__law_cell_at (aCons (eVar 0) (aCons (eOp gAddA (eC (.int 5)) (eVar 3)) aNil))) (E ps (VI (i : Int)) y .un) = .nx (E ps (VI (i : Int)) (VI d) .un) := set_go (x := .nw (I d)) (by rw [hd]; exact cell_e (by omega) (e_add (eC_ev _) rfl)) rfl (by simp [E])
      refine ⟨E ps (VI (i : Int)) y .un, _, by simp [E, intR], seq_go sc (ap ps (.wt (d.fmod 5 - 2, (d.fdiv 5).fmod 5 - 2, (d.fdiv 25).fmod 5 - 2)) _ _ _ _ (by omega) (wt_ev (e_t3 (e_sub (e_mod rfl (by omega)) (eC_ev _)) (e_sub (e_mod (e_div rfl (by omega) (by omega)) (by omega)) (eC_ev _)) (e_sub (e_mod (e_div rfl (by omega) (by omega)) (by omega)) (eC_ev _))))), _, _, _, rfl, fun p hp => ?_, by simp; omega⟩
      rcases List.mem_append.mp hp with h | h
      · exact hg p h
      · rw [List.mem_singleton.mp h]
        refine ⟨?_, ?_, ?_⟩ <;> dsimp only <;> exact Nat.lt_of_le_of_lt (m := 10) (by omega) (by decide))
  rw [List.length_map, List.length_range] at l4
  subst er4
  have opt : ∀ (n : Int) (mm : Int) (dv : Int) (mk : Int × Int → Pt) (f : FE), (∀ p, okFr p → okPt (mk p)) → ∀ (ps : List Pt) (x y : S), (∀ p ∈ ps, okPt p) → ps.length ≤ 5 → (∀ (ps : List Pt) (x y : S), ∃ p, okFr p ∧ f (E ps x y .un) = .ok (.nw (.fz (ptD (mk p))))) → ∀ ft : Env → Res Bool, (∀ ps x y, ∃ b, ft (E ps x y .un) = .ok b) → ∃ qs : List Pt, sIf ft (sApp 2 f) sNil (E ps x y .un) = .nx (E qs x y .un) ∧ (∀ p ∈ qs, okPt p) ∧ ps.length ≤ qs.length ∧ qs.length ≤ ps.length + 1 := fun n mm dv mk f hmk ps x y hg hl hf ft hft => by
    obtain ⟨b, hb⟩ := hft ps x y
    cases b with
    | true =>
      obtain ⟨p, hp, ef⟩ := hf ps x y
      refine ⟨ps ++ [mk p], if_t hb (ap ps (mk p) f _ _ _ (by omega) ef), fun q hq => ?_, by simp, by simp⟩
      rcases List.mem_append.mp hq with h | h
      · exact hg q h
      · rw [List.mem_singleton.mp h]; exact hmk p hp
    | false => exact ⟨ps, if_f hb rfl, hg, Nat.le_refl _, by omega⟩
  obtain ⟨ps5, s5, g5, l5, l5'⟩ := opt 0 0 0 .pw (eTup (aCons (eC (.str "power")) (aCons (eCall M__law_fraction (aCons (eCall M__law_cell_at (aCons (eVar 0) (aCons (eC (.int 7)) aNil))) aNil)) aNil))) (fun p h => h) ps4 x4 y4 g4 (by omega) (fun ps x y => by
    obtain ⟨p, ep, okp⟩ := lfrac_ok (cellAt ns 7)
    exact ⟨p, okp, pw_ev (call1 (x := .nw (I (cellAt ns 7))) (cell_c (by omega)) ep)⟩) (tOf (eOp gEq (eOp gMod (eOp gDiv (eVar 1) (eC (.int 9))) (eC (.int 2))) (eC (.int 1)))) (fun ps x y => ⟨_, t_eq (e_mod (e_div (a := c) rfl (by omega) (by omega)) (by omega)) (eC_ev _)⟩)
  obtain ⟨ps6, s6, g6, l6, l6'⟩ := opt 0 0 0 .gr (eTup (aCons (eC (.str "growth")) (aCons (eCall M__law_fraction (aCons (eCall M__law_cell_at (aCons (eVar 0) (aCons (eC (.int 8)) aNil))) aNil)) aNil))) (fun p h => h) ps5 x4 y4 g5 (by omega) (fun ps x y => by
    obtain ⟨p, ep, okp⟩ := lfrac_ok (cellAt ns 8)
    exact ⟨p, okp, gr_ev (call1 (x := .nw (I (cellAt ns 8))) (cell_c (by omega)) ep)⟩) (tOf (eOp gEq (eOp gMod (eOp gDiv (eVar 1) (eC (.int 18))) (eC (.int 3))) (eC (.int 1)))) (fun ps x y => ⟨_, t_eq (e_mod (e_div (a := c) rfl (by omega) (by omega)) (by omega)) (eC_ev _)⟩)
  have lp : (ps6.length : Int) ≠ 0 := by omega
  have rt := fmod_rg (a := c.fdiv 54) (b := (ps6.length : Int)) (by omega)
  obtain ⟨t, ht⟩ : ∃ t : Nat, (c.fdiv 54).fmod (ps6.length : Int) = t := ⟨((c.fdiv 54).fmod (ps6.length : Int)).toNat, by omega⟩
  have el : eB gLen (aCons (eVar 2) aNil) (E ps6 x4 y4 .un) = .ok (.nw (I (ps6.length : Int))) := len_P (w := true) (o := .ls (oPt ps6)) rfl (.inl rfl)
  have s7 : sSet 5 false (eOp gMod (eOp gDiv (eVar 1) (eC (.int 54))) (eB gLen (aCons (eVar 2) aNil))) (E ps6 x4 y4 .un) = .nx (E ps6 x4 y4 (VI (t : Int))) := set_go (x := .nw (I (t : Int))) (by rw [← ht]; exact e_modV (e_div (a := c) rfl (by omega) (by omega)) el lp) rfl (by simp [E])
  have sl : ∀ (lo hi : FP) (a b : Option Int), lo (E ps6 x4 y4 (VI (t : Int))) = .ok a → hi (E ps6 x4 y4 (VI (t : Int))) = .ok b → (cutL ps6 a b).length ≤ 6 → eSl (eVar 2) lo hi (E ps6 x4 y4 (VI (t : Int))) = .ok (.nw (.ls (oPt (cutL ps6 a b)))) := fun lo hi a b ha hb hl => by
    have v : eVar 2 (E ps6 x4 y4 (VI (t : Int))) = .ok (.vw (.ls (oPt ps6))) := rfl
    simp only [eSl, v, ha, hb, res_ok]
    show lsR (cutL (oPt ps6) a b) = _
    have e : cutL (oPt ps6) a b = oPt (cutL ps6 a b) := by
      unfold cutL oPt
      simp only [List.length_map, List.map_drop, List.map_take]
    rw [e]
    exact lsR_ev (allFz_oPt _) (by rw [List.length_map]; omega)
  have v5 : eVar 5 (E ps6 x4 y4 (VI (t : Int))) = .ok (.nw (I (t : Int))) := rfl
  have a1 := sl (pSome (eVar 5)) pNone (some (t : Int)) none (by rfl) rfl (by rw [cutL_suf]; simp; omega)
  have a2 := sl pNone (pSome (eVar 5)) none (some (t : Int)) rfl (by rfl) (by rw [cutL_pre]; simp; omega)
  rw [cutL_suf] at a1
  rw [cutL_pre] at a2
  have ec : eOp gAddA (eSl (eVar 2) (pSome (eVar 5)) pNone) (eSl (eVar 2) pNone (pSome (eVar 5))) (E ps6 x4 y4 (VI (t : Int))) = .ok (.nw (.ls (oPt (ps6.drop t ++ ps6.take t)))) := by
    rw [op_of a1 a2]
    show gCat (.fz (er (.ls (oPt (ps6.drop t))))) (.fz (er (.ls (oPt (ps6.take t))))) = _
    rw [er_oPt, er_oPt]
    unfold gCat
    rw [if_neg (by simp [isScr])]
    show lsR (((ps6.drop t).map ptD).map O.fz ++ ((ps6.take t).map ptD).map O.fz) = _
    rw [List.map_map, List.map_map, ← List.map_append]
    exact lsR_ev (allFz_oPt _) (by simp; omega)
  refine ⟨ps6.drop t ++ ps6.take t, ?_, fun p hp => ?_, by simp; omega, by simp; omega⟩
  · show runF 6 B__law_parts _ = _
    unfold B__law_parts
    exact run_ret (seq_go s1 (seq_go s2 (seq_go s3 (seq_go (for_go ei e4) (seq_go s5 (seq_go s6 (seq_go s7 (ret_go ec))))))))
  · rcases List.mem_append.mp hp with h | h
    · exact g6 p (List.mem_of_mem_drop h)
    · exact g6 p (List.mem_of_mem_take h)
theorem lis_ok (x : Int) : M__law_is [I x, I x] = .ok (.fz (.bl true)) := by
  show runF 2 B__law_is _ = _
  unfold B__law_is
  refine run_ret (ret_go ?_)
  have e : eOp gEq (eVar 0) (eVar 1) (startE 2 [I x, I x]) = .ok (.nw (.fz (.bl true))) := by
    have := eq_ev (f := eVar 0) (g := eVar 1) (r := startE 2 [I x, I x]) (a := x) (b := x) rfl rfl
    rw [decide_eq_true rfl] at this
    exact this
  exact e_and (a := true) (b := true) rfl fun _ => e_and (a := true) (b := true) rfl fun _ => e
theorem maxL_join (x u d : Int) (xs : List Int) (h : 0 ≤ x) : maxL 0 (x :: xs ++ [u, d]) = maxL x (xs ++ [mx2 u d]) := by
  unfold maxL
  rw [List.cons_append, List.foldl_cons, List.foldl_append, List.foldl_append]
  have e : (if (0 : Int) < x then x else 0) = x := by split <;> omega
  rw [e]
  generalize List.foldl (fun a b : Int => if a < b then b else a) x xs = m
  simp only [List.foldl_cons, List.foldl_nil, mx2]
  by_cases h1 : m < u <;> by_cases h2 : m < d <;> by_cases h3 : d > u <;> simp only [h1, h2, h3, if_true, if_false] <;> (try split) <;> omega
theorem for_ok {ps : List Pt} (hp : ∀ p ∈ ps, okPt p) (hl : ps.length ≤ 6) {far : Nat} (hf : far ≤ 2) : M__law_for [.fz (tmE ps), .fz (LPt ps), I far] = .ok (.fz (.bl true)) := by
  let RR (x y : S) : Env := [.vl false (.fz (tmE ps)), .vl false (.fz (LPt ps)), .vl false (I far), x, y]
  have eRG : ∀ x y, iRng rng1 (aCons (eOp gAddA (eVar 2) (eC (.int 1))) aNil) (RR x y) = .ok ((List.range (far + 1)).map fun (k : Nat) => intR (k : Int)) := fun x y => by
    refine rng_ok (n := far + 1) ?_ (by omega)
    have := e_add (f := eVar 2) (g := eC (.int 1)) (r := RR x y) (a := far) (b := 1) rfl (eC_ev _)
    simp only [aCons_ev, this, res_ok, aNil_ev]; rfl
  have lc : ∀ (w : Bool) (x y : S), eLcD (iRng rng1 (aCons (eOp gAddA (eVar 2) (eC (.int 1))) aNil)) (gN 4) [4] tYesD (eCall M__law_step (aCons (eVar 1) (aCons (eVar 4) (aCons (eVar 2) (aCons (eC (.int (pl w))) aNil))))) (RR x y) = .ok (.nw (.ls ((List.range (far + 1)).map fun (i : Nat) => I (sEx w ps i far)))) := fun w x y => by
    refine lcD_map (g := fun (i : Nat) => intR (i : Int)) (v := fun (i : Nat) => I (sEx w ps i far)) (eRG x y) (by simp [RR]) (fun i hi => ⟨RR x (VI (i : Int)), by simp [wipeE, RR, intR], ?_⟩) (by simp; omega)
    have hi2 : i ≤ far := by have := List.mem_range.mp hi; omega
    exact call_ok (os := [.fz (LPt ps), I (i : Int), I far, I (pl w)]) rfl (lstep_ok hp hl w (by omega) (by omega))
  have c1 : eCall M__law_is (aCons (eCall M_height_of (aCons (eVar 0) (aCons (eVar 2) aNil))) (aCons (eB gMaxL (aCons (eLcD (iRng rng1 (aCons (eOp gAddA (eVar 2) (eC (.int 1))) aNil)) (gN 4) [4] tYesD (eCall M__law_step (aCons (eVar 1) (aCons (eVar 4) (aCons (eVar 2) (aCons (eC (.int 1)) aNil)))))) aNil)) aNil)) (RR .un .un) = .ok (.nw (.fz (.bl true))) :=
    call2 (call2 (x := .nw (.fz (tmE ps))) (y := .nw (I far)) rfl rfl (height_ok hp hl hf)) (maxL_ev (lc false _ _) (by simp)) (lis_ok _)
  let U : Int := (ps.map (udg true)).sum
  let V : Int := (ps.map (ddg true)).sum
  have cu : eLst (aCons (eCall M__law_up_and_down (aCons (eVar 1) (aCons (eC (.int 0)) aNil))) aNil) (RR .un .un) = .ok (.nw (.ls [I (mx2 U V)])) := by
    have : eCall M__law_up_and_down (aCons (eVar 1) (aCons (eC (.int 0)) aNil)) (RR .un .un) = .ok (.nw (I (mx2 U V))) := call2 (x := .nw (.fz (LPt ps))) (y := .nw (I 0)) rfl (eC_ev _) (lud_ok hl true)
    simp only [eLst, aCons_ev, this, res_ok, aNil_ev, ra_nw, er_fz]; rfl
  have asI : ∀ xs : List Int, asIL (DL.R.nw (.ls (xs.map fun x => I x))).a = some xs := fun xs => by
    show asIL (O.fz (er (O.ls (xs.map fun x => I x)))) = _
    rw [er_ls, ers_eq, List.map_map]
    exact asIL_lst xs
  have e0 : 0 ≤ sEx true ps ((0 : Nat) : Int) far := by
    have bs := steps_bx hp hl (i := ((0 : Nat) : Int)) (far := (far : Int)) (by omega) (by omega)
    have d := (steps_dg true hp (i := ((0 : Nat) : Int)) (far := (far : Int)) (by omega) (by omega)).mxd bs.c
    have := mxd_0 (w := true) bs
    unfold sEx
    rw [← d]; exact this
  let xs : List Int := (List.range (far + 1)).map fun (i : Nat) => sEx true ps i far
  have hxs : xs = sEx true ps ((0 : Nat) : Int) far :: (List.range far).map fun (i : Nat) => sEx true ps ((i + 1 : Nat) : Int) far := by
    show (List.range (far + 1)).map _ = _
    rw [List.range_succ_eq_map, List.map_cons, List.map_map]; rfl
  have cm : eB gMaxL (aCons (eOp gAddA (eLcD (iRng rng1 (aCons (eOp gAddA (eVar 2) (eC (.int 1))) aNil)) (gN 4) [4] tYesD (eCall M__law_step (aCons (eVar 1) (aCons (eVar 4) (aCons (eVar 2) (aCons (eC (.int 0)) aNil)))))) (eLst (aCons (eCall M__law_up_and_down (aCons (eVar 1) (aCons (eC (.int 0)) aNil))) aNil))) aNil) (RR .un .un) = .ok (.nw (I (maxL 0 (xs ++ [U, V])))) := by
    have l1 : eLcD (iRng rng1 (aCons (eOp gAddA (eVar 2) (eC (.int 1))) aNil)) (gN 4) [4] tYesD (eCall M__law_step (aCons (eVar 1) (aCons (eVar 4) (aCons (eVar 2) (aCons (eC (.int 0)) aNil))))) (RR .un .un) = Res.ok (DL.R.nw (O.ls (xs.map fun x => I x))) := (lc true .un .un).trans (by rw [List.map_map]; rfl)
    have ec : eOp gAddA (eLcD (iRng rng1 (aCons (eOp gAddA (eVar 2) (eC (.int 1))) aNil)) (gN 4) [4] tYesD (eCall M__law_step (aCons (eVar 1) (aCons (eVar 4) (aCons (eVar 2) (aCons (eC (.int 0)) aNil)))))) (eLst (aCons (eCall M__law_up_and_down (aCons (eVar 1) (aCons (eC (.int 0)) aNil))) aNil)) (RR .un .un) = .ok (.nw (nO (xs ++ [mx2 U V]))) := by
      rw [op_of l1 cu]
      refine cat_IL (asI xs) (asI [mx2 U V]) (by simp [xs]; omega)
    rw [b1 ec, ra_nO]
    rw [hxs] at *
    rw [List.cons_append, max_IL (asIL_lst _), maxL_join _ _ _ _ e0]
  show runF 5 B__law_for _ = _
  unfold B__law_for
  exact run_ret (seq_go (r' := RR .un .un) (if_f (bF c1) rfl) (seq_go (r' := RR (VI (maxL 0 (xs ++ [U, V]))) .un) (set_go cm rfl (by simp [RR])) (ret_go (call2 (y := .nw (I (maxL 0 (xs ++ [U, V])))) (call2 (x := .nw (.fz (tmE ps))) (y := .nw (I far)) rfl rfl (length_ok hp hl hf)) rfl (lis_ok _)))))
theorem gNe_bl (a : Bool) : gNe (.fz (.bl a)) (.fz (.bl a)) = .ok (.nw (.fz (.bl false))) := by cases a <;> rfl
theorem hlaw : ∀ ns : List Int, ns.length ≤ 63 → runF 7 B_law [.fz (.scr ns)] = .ok (.fz (.bl true)) := by
  intro ns hns
  obtain ⟨ps, eP, hp, h1, hl⟩ := parts_ok ns
  let A : S := scrS ns
  let W : S := .vl true (.fz (LPt ps))
  let T : S := .vl true (.fz (tmE ps))
  let Z : S := .vl true (.fz (.bl (endsB ps)))
  let E (x y : S) : Env := [A, W, W, T, Z, x, y]
  have s1 : sSet 1 false (eCall M__law_parts (aCons (eVar 0) aNil)) [A, .un, .un, .un, .un, .un, .un] = .nx [A, W, .un, .un, .un, .un, .un] := set_go (x := .nw (.ls (oPt ps))) (call1 (x := .nw (.fz (.scr ns))) rfl eP) (by show some (S.vl true (.fz (er (.ls (oPt ps))))) = _; rw [er_oPt]) (by simp)
  have s2 : sSet 2 false (eB gList (aCons (eVar 1) aNil)) [A, W, .un, .un, .un, .un, .un] = .nx [A, W, W, .un, .un, .un, .un] := set_go (x := .nw (.ls (oPt ps))) (list_P (w := false) (o := .fz (LPt ps)) rfl (.inr rfl)) (by show some (S.vl true (.fz (er (.ls (oPt ps))))) = _; rw [er_oPt]) (by simp)
  have s3 : sSet 3 false (eMake M_Term___init__ (aCons (eVar 2) aNil)) [A, W, W, .un, .un, .un, .un] = .nx [A, W, W, T, .un, .un, .un] := set_go (x := .nw (tmO ps)) (make_ok (os := [.fz (LPt ps)]) rfl (term_made (.inr rfl) h1 hl fun p h => gd_of (hp p h))) (by show some (S.vl true (.fz (er (tmO ps)))) = _; rw [er_tm]) (by simp)
  have ce : ∀ r : Env, r[3]? = some T → eCall M_has_ends (aCons (eVar 3) aNil) r = .ok (.nw (.fz (.bl (endsB ps)))) := fun r hr => call1 (x := .nw (.fz (tmE ps))) (by rw [var_of hr]; rfl) (ends_ok ps hl)
  have s4 : sSet 4 false (eCall M_has_ends (aCons (eVar 3) aNil)) [A, W, W, T, .un, .un, .un] = .nx (E .un .un) := set_go (ce _ rfl) rfl (by simp)
  have t5 : tOrD (tNotD (tOf (eIsi .bl (eVar 4)))) (tOf (eOp gNe (eVar 4) (eCall M__law_ends (aCons (eVar 1) aNil)))) (E .un .un) = .ok false := by
    refine t_orT (a := false) (b := false) (bF rfl) fun _ => ?_
    rw [tOf_ev, op_of (x := .nw (.fz (.bl (endsB ps)))) rfl (call1 (x := .nw (.fz (LPt ps))) rfl (lends_ok hl))]
    show (gNe (.fz (.bl (endsB ps))) (.fz (.bl (endsB ps)))).bind toB = _
    rw [gNe_bl]; rfl
  have t6 : tNotD (tOf (eCall M__law_is (aCons (eCall M_breadth_of (aCons (eVar 3) aNil)) (aCons (eCall M__law_up_and_down (aCons (eVar 1) (aCons (eC (.int 1)) aNil))) aNil)))) (E .un .un) = .ok false :=
    bF (call2 (call1 (x := .nw (.fz (tmE ps))) rfl (breadth_ok hp hl)) (call2 (x := .nw (.fz (LPt ps))) (y := .nw (I 1)) rfl (eC_ev _) (lud_ok hl false)) (lis_ok _))
  have rs := fmod_rg (a := cellAt ns 9) (b := 3) (by omega)
  obtain ⟨st, hst⟩ : ∃ st : Nat, (cellAt ns 9).fmod 3 = st := ⟨((cellAt ns 9).fmod 3).toNat, by omega⟩
  have s7 : sSet 5 false (eOp gMod (eCall M__law_cell_at (aCons (eVar 0) (aCons (eC (.int 9)) aNil))) (eC (.int 3))) (E .un .un) = .nx (E (VI (st : Int)) .un) := set_go (x := .nw (I (st : Int))) (by rw [← hst]; exact e_mod (cell_c (by omega)) (by omega)) rfl (by simp [E])
  have ei := rng_ok (fs := aCons (eC (.int 3)) aNil) (r := E (VI (st : Int)) .un) (n := 3) rfl (by omega)
  obtain ⟨r8, e8, y8, hr8⟩ := forL_inv (fg := gN 6) (F := sIf (tNotD (tOf (eCall M__law_for (aCons (eVar 3) (aCons (eVar 1) (aCons (eOp gMod (eOp gAddA (eVar 5) (eVar 6)) (eC (.int 3))) aNil)))))) (sRet (eC (.bl false))) sNil) (its := (List.range 3).map fun (j : Nat) => intR (j : Int)) (r := E (VI (st : Int)) .un)
    (fun i r => ∃ y : S, r = E (VI (st : Int)) y) ⟨.un, rfl⟩ (fun i z r hz ⟨y, hr⟩ => by
      subst hr
      obtain ⟨hi, rfl⟩ : i < 3 ∧ z = intR (i : Int) := by
        rw [List.getElem?_map] at hz
        cases hj : (List.range 3)[i]? with
        | none => rw [hj] at hz; cases hz
        | some j =>
          rw [hj] at hz
          obtain ⟨h1, h2⟩ := List.getElem?_eq_some_iff.mp hj
          simp at h1 h2
          subst h2
          exact ⟨by omega, (Option.some.inj hz).symm⟩
      have rf := fmod_rg (a := (st : Int) + (i : Int)) (b := 3) (by omega)
      obtain ⟨far, hf⟩ : ∃ far : Nat, ((st : Int) + (i : Int)).fmod 3 = far := ⟨(((st : Int) + (i : Int)).fmod 3).toNat, by omega⟩
      have em : eOp gMod (eOp gAddA (eVar 5) (eVar 6)) (eC (.int 3)) (E (VI (st : Int)) (VI (i : Int))) = .ok (.nw (I (far : Int))) := by rw [← hf]; exact e_mod (e_add rfl rfl) (by omega)
      exact ⟨E (VI (st : Int)) (VI (i : Int)), _, by simp [E, intR], if_f (bF (call3 (x := .nw (.fz (tmE ps))) (y := .nw (.fz (LPt ps))) (z := .nw (I (far : Int))) rfl rfl em (for_ok hp hl (by omega)))) rfl, VI (i : Int), rfl⟩)
  subst hr8
  unfold B_law
  refine run_ret ?_
  show sSeq _ _ [A, .un, .un, .un, .un, .un, .un] = _
  refine seq_go s1 (seq_go s2 (seq_go s3 (seq_go s4 (seq_go (if_f t5 rfl) (seq_go (if_f t6 rfl) (seq_go s7 (seq_go (for_go ei e8) (ret_go ?_))))))))
  refine e_and (a := true) (b := true) ?_ fun _ => e_and (a := true) (b := true) ?_ fun _ => ?_
  · rw [op_of (x := .nw (.fz (LPt ps))) (y := .nw (.fz (LPt ps))) rfl rfl]
    exact gEq_same (d := LPt ps) rfl rfl (plain_LPt 17 ps) (fun _ h => by cases h)
  · rw [op_of (told_its rfl) (y := .nw (.fz (LPt ps))) rfl]
    exact gEq_same (d := LPt ps) (er_oPt ps) rfl (plain_LPt 17 ps) (fun _ h => by cases h)
  · rw [op_of (ce _ rfl) (y := .nw (.fz (.bl (endsB ps)))) rfl]
    show gEq (.fz (.bl (endsB ps))) (.fz (.bl (endsB ps))) = _
    rw [gEq_bl, decide_eq_true rfl]
end
section
open PySem PySem.Spec PyProof.Rows L2 DL
namespace Row
variable {P : Program} {w : World} {K : PySem.W.Frag} {mg : Str → Option Value} {base : Heap} {f : Addr} {fd : FuncData}
theorem ok__law_is (F : FnP K "_law_is" s__law_is f fd) (hm : mg "_law_is" = some (.ref f)) (h_bool : mg "bool" = none) (h_int : mg "int" = none) (h_isinstance : mg "isinstance" = none) : Def P w K mg base "_law_is" 1 2 M__law_is :=
  (Def.ofD (N := N__law_is) F sc__law_is hm (FunD.bindsN (ps := ["_law_found", "_law_due"]) F fun _ _ _ _ _ _ us hl => match us, hl with | [_, _], _ => rfl) rfl B__law_is (fun cdv A outer s H E Hf B => (dss_one (ds_ret (de_and (de_isi .int rfl h_isinstance (pe_bltn rfl h_int (by decide +kernel) rfl) (de_var (pv 0))) (de_and (de_not (de_isi .bl rfl h_isinstance (pe_bltn rfl h_bool (by decide +kernel) rfl) (de_var (pv 0)))) (de_one (de_eq B (de_var (pv 0)) (de_var (pv 1)))))))))).imp (fun os h => .inr rfl)
theorem ok__law_cell_at (F : FnP K "_law_cell_at" s__law_cell_at f fd) (hm : mg "_law_cell_at" = some (.ref f)) (h_len : mg "len" = none) : Def P w K mg base "_law_cell_at" 1 2 M__law_cell_at :=
  (Def.ofD (N := N__law_cell_at) F sc__law_cell_at hm (FunD.bindsN (ps := ["_law_script", "_law_k"]) F fun _ _ _ _ _ _ us hl => match us, hl with | [_, _], _ => rfl) rfl B__law_cell_at (fun cdv A outer s H E Hf B => (dss_cons (ds_if (dt_lt (de_var (pv 1)) (de_len rfl h_len (da_cons (de_var (pv 0)) da_nil))) (dss_one (ds_ret (de_ix (de_var (pv 0)) (de_var (pv 1))))) dss_nil) (dss_one (ds_ret de_int))))).imp imp__law_cell_at
theorem ok_Term_told {cn : Str} (F : FunD K "told" "Term.told" (defArgs s_Term_told) (defBody s_Term_told) (defScope s_Term_told) [] [] f fd) (cl : Cls K (He.ga K cn)) (hm : Meth K (He.ga K cn) "told" f) (h_list : mg "list" = none) (fl_words : FldF K TF_words "words") : DefM P w K mg base cn "told" 1 1 M_Term_told :=
  (DefM.ofD (N := N_Term_told) F sc_Term_told cl hm (FunD.bindsN (ps := ["self"]) F fun _ _ _ _ _ _ us hl => match us, hl with | [_], _ => rfl) rfl B_Term_told (fun cdv A outer s H E Hf B => (dss_one (ds_ret (de_Ty call_list_of pc_list rfl h_list (by decide +kernel) (da_cons (de_fld fl_words (de_var (pv 0))) da_nil)))))).imp (fun os h => .inr rfl)
theorem ok_Choose___init__ {cn : Str} (hcn : cn = "Choose") (F : FunD K "__init__" "Choose.__init__" (defArgs s_Choose___init__) (defBody s_Choose___init__) (defScope s_Choose___init__) [] [] f fd) (mk : Mk K (He.ga K cn) f) (hm : mg cn = some (.ref (He.ga K cn))) (fl_high : FldF K TF_high "high") (fl_lows : FldF K TF_lows "lows") : DefI P w K mg base cn 1 2 M_Choose___init__ := by
  subst hcn
  exact DefI.ofD (N := N_Choose___init__) F sc_Choose___init__ mk hm (FunD.bindsN (ps := ["self", "high", "low"]) F fun _ _ _ _ _ _ us hl => match us, hl with | [_, _, _], _ => rfl) rfl (by decide) B_Choose___init__ M_Choose___init__ (fun cdv A outer s H H0 E Hf B => (dss_cons (ds_fldM (i := 0) fl_high (pv 0) (de_var (pv 1))) (dss_one (ds_fldM (i := 0) fl_lows (pv 0) (de_lst (da_cons (de_var (pv 2)) (da_cons (de_tup (da_cons (de_sub (de_ix (de_var (pv 1)) de_int) (de_ix (de_var (pv 2)) de_int)) (da_cons (de_sub (de_ix (de_var (pv 1)) de_int) (de_ix (de_var (pv 2)) de_int)) (da_cons (de_sub (de_ix (de_var (pv 1)) de_int) (de_ix (de_var (pv 2)) de_int)) da_nil)))) da_nil))))))) imp_Choose___init__
theorem ok_Weight___init__ {cn : Str} (hcn : cn = "Weight") (F : FunD K "__init__" "Weight.__init__" (defArgs s_Weight___init__) (defBody s_Weight___init__) (defScope s_Weight___init__) [] [] f fd) (mk : Mk K (He.ga K cn) f) (hm : mg cn = some (.ref (He.ga K cn))) (fl_form : FldF K TF_form "form") : DefI P w K mg base cn 1 1 M_Weight___init__ := by
  subst hcn
  exact DefI.ofD (N := N_Weight___init__) F sc_Weight___init__ mk hm (FunD.bindsN (ps := ["self", "form"]) F fun _ _ _ _ _ _ us hl => match us, hl with | [_, _], _ => rfl) rfl (by decide) B_Weight___init__ M_Weight___init__ (fun cdv A outer s H H0 E Hf B => (dss_one (ds_fldM (i := 0) fl_form (pv 0) (de_var (pv 1))))) imp_Weight___init__
theorem ok_Power___init__ {cn : Str} (hcn : cn = "Power") (F : FunD K "__init__" "Power.__init__" (defArgs s_Power___init__) (defBody s_Power___init__) (defScope s_Power___init__) [] [] f fd) (mk : Mk K (He.ga K cn) f) (hm : mg cn = some (.ref (He.ga K cn))) (fl_fraction : FldF K TF_fraction "fraction") : DefI P w K mg base cn 1 1 M_Power___init__ := by
  subst hcn
  exact DefI.ofD (N := N_Power___init__) F sc_Power___init__ mk hm (FunD.bindsN (ps := ["self", "fraction"]) F fun _ _ _ _ _ _ us hl => match us, hl with | [_, _], _ => rfl) rfl (by decide) B_Power___init__ M_Power___init__ (fun cdv A outer s H H0 E Hf B => (dss_one (ds_fldM (i := 0) fl_fraction (pv 0) (de_var (pv 1))))) imp_Power___init__
theorem ok_Growth___init__ {cn : Str} (hcn : cn = "Growth") (F : FunD K "__init__" "Growth.__init__" (defArgs s_Growth___init__) (defBody s_Growth___init__) (defScope s_Growth___init__) [] [] f fd) (mk : Mk K (He.ga K cn) f) (hm : mg cn = some (.ref (He.ga K cn))) (fl_fraction : FldF K TF_fraction "fraction") : DefI P w K mg base cn 1 1 M_Growth___init__ := by
  subst hcn
  exact DefI.ofD (N := N_Growth___init__) F sc_Growth___init__ mk hm (FunD.bindsN (ps := ["self", "fraction"]) F fun _ _ _ _ _ _ us hl => match us, hl with | [_, _], _ => rfl) rfl (by decide) B_Growth___init__ M_Growth___init__ (fun cdv A outer s H H0 E Hf B => (dss_one (ds_fldM (i := 0) fl_fraction (pv 0) (de_var (pv 1))))) imp_Growth___init__
theorem ok_within (F : FnP K "within" s_within f fd) (hm : mg "within" = some (.ref f)) (h_abs : mg "abs" = none) (h_max : mg "max" = none) (h_min : mg "min" = none) : Def P w K mg base "within" 1 4 M_within :=
  (Def.ofD (N := N_within) F sc_within hm (FunD.bindsN (ps := ["form", "least", "greatest", "last"]) F fun _ _ _ _ _ _ us hl => match us, hl with | [_, _, _, _], _ => rfl) rfl B_within (fun cdv A outer s H E Hf B => (dss_cons (ds_if (dt_w (dw_or (dt_lt (de_B (cr_minT rfl) pc_minT rfl h_min (by decide +kernel) (da_cons (de_slT (de_var (pv 0)) dp_none (dp_some de_int)) da_nil)) (de_var (pv 1))) (dw_or1 (dt_gt (de_B (cr_maxT rfl) pc_maxT rfl h_max (by decide +kernel) (da_cons (de_slT (de_var (pv 0)) dp_none (dp_some de_int)) da_nil)) (de_var (pv 2)))))) (dss_one (ds_ret de_bl)) dss_nil) (dss_one (ds_ret (de_and (de_le (de_B call_abs pc_abs rfl h_abs (by decide +kernel) (da_cons (de_ix (de_var (pv 0)) de_int) da_nil)) (de_var (pv 3))) (de_one (de_or (de_lt (de_var (pv 1)) de_int) (de_one (de_ge (de_ix (de_var (pv 0)) de_int) de_int)))))))))).imp (fun os h => .inr rfl)
theorem ok__law_less (F : FnP K "_law_less" s__law_less f fd) (hm : mg "_law_less" = some (.ref f))  : Def P w K mg base "_law_less" 1 2 M__law_less :=
  (Def.ofD (N := N__law_less) F sc__law_less hm (FunD.bindsN (ps := ["_law_one", "_law_other"]) F fun _ _ _ _ _ _ us hl => match us, hl with | [_, _], _ => rfl) rfl B__law_less (fun cdv A outer s H E Hf B => (dss_one (ds_ret (de_tup (da_cons (de_sub (de_ix (de_var (pv 0)) de_int) (de_ix (de_var (pv 1)) de_int)) (da_cons (de_sub (de_ix (de_var (pv 0)) de_int) (de_ix (de_var (pv 1)) de_int)) (da_cons (de_sub (de_ix (de_var (pv 0)) de_int) (de_ix (de_var (pv 1)) de_int)) da_nil)))))))).imp (fun os h => .inr rfl)
theorem ok_degree_in_k (F : FnP K "degree_in_k" s_degree_in_k f fd) (hm : mg "degree_in_k" = some (.ref f)) (h_max : mg "max" = none) : Def P w K mg base "degree_in_k" 1 1 M_degree_in_k :=
  (Def.ofD (N := N_degree_in_k) F sc_degree_in_k hm (FunD.bindsN (ps := ["one"]) F fun _ _ _ _ _ _ us hl => match us, hl with | [_], _ => rfl) rfl B_degree_in_k (fun cdv A outer s H E Hf B => (dss_one (ds_maxK (i := 0) (m := 1) B sc_degree_in_k.nd (pv 0) (blkOk_by (own := [("powers", 1)]) (N := N_degree_in_k) (sc := defScope s_degree_in_k) (by decide +kernel)) rfl h_max (by decide +kernel) pe_int rfl (fun _ _ _ _ _ => (by first | exact Or.inl rfl | exact Or.inr rfl)) (fun _ _ _ _ _ => (by first | exact Or.inl rfl | exact Or.inr rfl)) (fun _ _ _ _ _ _ => (de_ix (de_var (pv 1)) de_int)))))).imp (fun os h => .inr rfl)
theorem ok_Part_up {cn : Str} (F : FunD K "up" "Part.up" (defArgs s_Part_up) (defBody s_Part_up) (defScope s_Part_up) [] [] f fd) (cl : Cls K (He.ga K cn)) (hm : Meth K (He.ga K cn) "up" f)  : DefM P w K mg base cn "up" 1 2 M_Part_up :=
  (DefM.ofD (N := N_Part_up) F sc_Part_up cl hm (FunD.bindsN (ps := ["self", "far"]) F fun _ _ _ _ _ _ us hl => match us, hl with | [_, _], _ => rfl) rfl B_Part_up (fun cdv A outer s H E Hf B => (dss_one (ds_ret (de_dspT B (dps_cons (de_tup (da_cons de_int (da_cons de_int da_nil))) de_int dps_nil)))))).imp (fun os h => .inr rfl)
theorem ok_Power_up {cn : Str} (F : FunD K "up" "Power.up" (defArgs s_Power_up) (defBody s_Power_up) (defScope s_Power_up) [] [] f fd) (cl : Cls K (He.ga K cn)) (hm : Meth K (He.ga K cn) "up" f) (fl_fraction : FldF K TF_fraction "fraction") : DefM P w K mg base cn "up" 1 2 M_Power_up :=
  (DefM.ofD (N := N_Power_up) F sc_Power_up cl hm (FunD.bindsN (ps := ["self", "far"]) F fun _ _ _ _ _ _ us hl => match us, hl with | [_, _], _ => rfl) rfl B_Power_up (fun cdv A outer s H E Hf B => (dss_one (ds_ret (de_dspT B (dps_cons (de_tup (da_cons de_int (da_cons de_int da_nil))) (de_ix (de_fld fl_fraction (de_var (pv 0))) de_int) dps_nil)))))).imp (fun os h => .inr rfl)
theorem ok_Part_down {cn : Str} (F : FunD K "down" "Part.down" (defArgs s_Part_down) (defBody s_Part_down) (defScope s_Part_down) [] [] f fd) (cl : Cls K (He.ga K cn)) (hm : Meth K (He.ga K cn) "down" f)  : DefM P w K mg base cn "down" 1 2 M_Part_down :=
  (DefM.ofD (N := N_Part_down) F sc_Part_down cl hm (FunD.bindsN (ps := ["self", "far"]) F fun _ _ _ _ _ _ us hl => match us, hl with | [_, _], _ => rfl) rfl B_Part_down (fun cdv A outer s H E Hf B => (dss_one (ds_ret (de_dspT B (dps_cons (de_tup (da_cons de_int (da_cons de_int da_nil))) de_int dps_nil)))))).imp (fun os h => .inr rfl)
theorem ok_Power_down {cn : Str} (F : FunD K "down" "Power.down" (defArgs s_Power_down) (defBody s_Power_down) (defScope s_Power_down) [] [] f fd) (cl : Cls K (He.ga K cn)) (hm : Meth K (He.ga K cn) "down" f) (fl_fraction : FldF K TF_fraction "fraction") : DefM P w K mg base cn "down" 1 2 M_Power_down :=
  (DefM.ofD (N := N_Power_down) F sc_Power_down cl hm (FunD.bindsN (ps := ["self", "far"]) F fun _ _ _ _ _ _ us hl => match us, hl with | [_, _], _ => rfl) rfl B_Power_down (fun cdv A outer s H E Hf B => (dss_one (ds_ret (de_dspT B (dps_cons (de_tup (da_cons de_int (da_cons de_int da_nil))) (de_ix (de_fld fl_fraction (de_var (pv 0))) de_int) dps_nil)))))).imp (fun os h => .inr rfl)
theorem ok_Part_step {cn : Str} (F : FunD K "step" "Part.step" (defArgs s_Part_step) (defBody s_Part_step) (defScope s_Part_step) [] [] f fd) (cl : Cls K (He.ga K cn)) (hm : Meth K (He.ga K cn) "step" f)  : DefM P w K mg base cn "step" 1 3 M_Part_step :=
  (DefM.ofD (N := N_Part_step) F sc_Part_step cl hm (FunD.bindsN (ps := ["self", "i", "far"]) F fun _ _ _ _ _ _ us hl => match us, hl with | [_, _, _], _ => rfl) rfl B_Part_step (fun cdv A outer s H E Hf B => (dss_one (ds_ret (de_dspT B (dps_cons (de_tup (da_cons de_int (da_cons de_int da_nil))) de_int dps_nil)))))).imp (fun os h => .inr rfl)
theorem ok_raised (F : FnP K "raised" s_raised f fd) (hm : mg "raised" = some (.ref f)) (h_range : mg "range" = none) : Def P w K mg base "raised" 1 2 M_raised :=
  (Def.ofD (N := N_raised) F sc_raised hm (FunD.bindsN (ps := ["fraction", "many"]) F fun _ _ _ _ _ _ us hl => match us, hl with | [_, _], _ => rfl) rfl B_raised (fun cdv A outer s H E Hf B => (dss_cons (ds_set (i := 2) false sc_raised.nd rfl (by first | exact Or.inl rfl | exact Or.inr rfl) de_int) (dss_cons (ds_set (i := 3) false sc_raised.nd rfl (by first | exact Or.inl rfl | exact Or.inr rfl) de_int) (dss_cons (ds_for B (di_rng1 rfl h_range (da_cons (de_var (pv 1)) da_nil)) (dg_name (i := 4) (vs := [4]) sc_raised.nd rfl (by first | exact Or.inl rfl | exact Or.inr rfl)) (dss_cons (ds_augM (i := 2) sc_raised.nd rfl (by first | exact Or.inl rfl | exact Or.inr rfl) (de_ix (de_var (pv 0)) de_int)) (dss_one (ds_augM (i := 3) sc_raised.nd rfl (by first | exact Or.inl rfl | exact Or.inr rfl) (de_ix (de_var (pv 0)) de_int))))) (dss_one (ds_ret (de_tup (da_cons (de_var (pv 2)) (da_cons (de_var (pv 3)) da_nil)))))))))).imp (fun os h => .inr rfl)
theorem ok_without_noughts (F : FnP K "without_noughts" s_without_noughts f fd) (hm : mg "without_noughts" = some (.ref f))  : Def P w K mg base "without_noughts" 1 1 M_without_noughts :=
  (Def.ofD (N := N_without_noughts) F sc_without_noughts hm (FunD.bindsN (ps := ["one"]) F fun _ _ _ _ _ _ us hl => match us, hl with | [_], _ => rfl) rfl B_without_noughts (fun cdv A outer s H E Hf B => (dss_cons (ds_set (i := 1) true sc_without_noughts.nd rfl (by first | exact Or.inl rfl | exact Or.inr rfl) de_dnew) (dss_cons (ds_forDI (i := 0) (m := 2) (n := 3) B sc_without_noughts.nd (pv 0) rfl rfl (by first | exact Or.inl rfl | exact Or.inr rfl) (by first | exact Or.inl rfl | exact Or.inr rfl) (by first | exact Or.inl rfl | exact Or.inr rfl) (by first | exact Or.inl rfl | exact Or.inr rfl) (fun c B => (dss_one (ds_if (dt_ne B (de_var (pv 3)) de_int) (dss_one (ds_dputL (i := 1) B (pv 1) (de_var (pv 3)) (de_var (pv 2)))) dss_nil)))) (dss_one (ds_retV (pv 1))))))).imp (fun os h => .inr rfl)
theorem ok_Choose_raised_lows {cn : Str} (F : FunD K "raised_lows" "Choose.raised_lows" (defArgs s_Choose_raised_lows) (defBody s_Choose_raised_lows) (defScope s_Choose_raised_lows) [] [] f fd) (cl : Cls K (He.ga K cn)) (hm : Meth K (He.ga K cn) "raised_lows" f) (h_max : mg "max" = none) (fl_lows : FldF K TF_lows "lows") : DefM P w K mg base cn "raised_lows" 1 2 M_Choose_raised_lows :=
  (DefM.ofD (N := N_Choose_raised_lows) F sc_Choose_raised_lows cl hm (FunD.bindsN (ps := ["self", "far"]) F fun _ _ _ _ _ _ us hl => match us, hl with | [_, _], _ => rfl) rfl B_Choose_raised_lows (fun cdv A outer s H E Hf B => (dss_one (ds_ret (de_lc (own := [("low", 2)]) B sc_Choose_raised_lows.nd (di_list (de_fld fl_lows (de_var (pv 0)))) (blkOk_by (own := [("low", 2)]) (N := N_Choose_raised_lows) (sc := defScope s_Choose_raised_lows) (by decide +kernel)) (fun _ _ _ _ _ => (dg_name (i := 2) (vs := [2]) sc_Choose_raised_lows.nd rfl (by first | exact Or.inl rfl | exact Or.inr rfl))) (fun _ _ _ _ _ => (de_tup (da_cons (de_ix (de_var (pv 2)) de_int) (da_cons (de_ix (de_var (pv 2)) de_int) (da_cons (de_addA (de_ix (de_var (pv 2)) de_int) (de_mulA (de_var (pv 1)) (de_B (call_max2 rfl) pc_max2 rfl h_max (by decide +kernel) (da_cons de_int (da_cons (de_ix (de_var (pv 2)) de_int) da_nil))))) da_nil)))))))))).imp (fun os h => .inr rfl)
theorem ok__law_fraction (F : FnP K "_law_fraction" s__law_fraction f fd) (hm : mg "_law_fraction" = some (.ref f))  : Def P w K mg base "_law_fraction" 1 1 M__law_fraction :=
  (Def.ofD (N := N__law_fraction) F sc__law_fraction hm (FunD.bindsN (ps := ["_law_cell"]) F fun _ _ _ _ _ _ us hl => match us, hl with | [_], _ => rfl) rfl B__law_fraction (fun cdv A outer s H E Hf B => (dss_one (ds_ret (de_ix (de_lst (da_cons (de_tup (da_cons de_int (da_cons de_int da_nil))) (da_cons (de_tup (da_cons (de_neg de_int) (da_cons de_int da_nil))) (da_cons (de_tup (da_cons de_int (da_cons de_int da_nil))) (da_cons (de_tup (da_cons de_int (da_cons de_int da_nil))) (da_cons (de_tup (da_cons (de_neg de_int) (da_cons de_int da_nil))) (da_cons (de_tup (da_cons de_int (da_cons de_int da_nil))) (da_cons (de_tup (da_cons (de_neg de_int) (da_cons de_int da_nil))) da_nil)))))))) (de_mod (de_var (pv 0)) de_int)))))).imp (fun os h => .inr rfl)
theorem ok_is_choose (F : FnP K "is_choose" s_is_choose f fd) (hm : mg "is_choose" = some (.ref f)) (D_within : Def P w K mg base "within" 1 4 M_within) : Def P w K mg base "is_choose" 2 2 M_is_choose :=
  (Def.ofD (N := N_is_choose) F sc_is_choose hm (FunD.bindsN (ps := ["upper", "lower"]) F fun _ _ _ _ _ _ us hl => match us, hl with | [_, _], _ => rfl) rfl B_is_choose (fun cdv A outer s H E Hf B => (dss_cons (ds_if (dt_w (dw_or (dt_not (dt_val (de_call D_within B (by decide) rfl (da_cons (de_var (pv 0)) (da_cons de_int (da_cons de_int (da_cons de_int da_nil)))) rfl (hlen := (ar_cons (ar_cons (ar_cons (ar_cons ar_nil)))))))) (dw_or1 (dt_not (dt_val (de_call D_within B (by decide) rfl (da_cons (de_var (pv 1)) (da_cons (de_neg de_int) (da_cons de_int (da_cons de_int da_nil)))) rfl (hlen := (ar_cons (ar_cons (ar_cons (ar_cons ar_nil))))))))))) (dss_one (ds_ret de_bl)) dss_nil) (dss_cons (ds_for B (di_list (de_lst (da_cons (de_var (pv 1)) (da_cons (de_tup (da_cons (de_sub (de_ix (de_var (pv 0)) de_int) (de_ix (de_var (pv 1)) de_int)) (da_cons (de_sub (de_ix (de_var (pv 0)) de_int) (de_ix (de_var (pv 1)) de_int)) (da_cons (de_sub (de_ix (de_var (pv 0)) de_int) (de_ix (de_var (pv 1)) de_int)) da_nil)))) da_nil)))) (dg_name (i := 2) (vs := [2]) sc_is_choose.nd rfl (by first | exact Or.inl rfl | exact Or.inr rfl)) (dss_one (ds_if (dt_w (dw_and (dt_eq B (de_ix (de_var (pv 2)) de_int) de_int) (dw_and1 (dt_lt (de_ix (de_var (pv 2)) de_int) de_int)))) (dss_one (ds_ret de_bl)) dss_nil))) (dss_one (ds_ret de_bl)))))).imp (fun os h => .inr rfl)
theorem ok__law_lows (F : FnP K "_law_lows" s__law_lows f fd) (hm : mg "_law_lows" = some (.ref f)) (D__law_less : Def P w K mg base "_law_less" 1 2 M__law_less) : Def P w K mg base "_law_lows" 2 1 M__law_lows :=
  (Def.ofD (N := N__law_lows) F sc__law_lows hm (FunD.bindsN (ps := ["_law_part"]) F fun _ _ _ _ _ _ us hl => match us, hl with | [_], _ => rfl) rfl B__law_lows (fun cdv A outer s H E Hf B => (dss_one (ds_ret (de_lst (da_cons (de_ix (de_var (pv 0)) de_int) (da_cons (de_call D__law_less B (by decide) rfl (da_cons (de_ix (de_var (pv 0)) de_int) (da_cons (de_ix (de_var (pv 0)) de_int) da_nil)) rfl (hlen := (ar_cons (ar_cons ar_nil)))) da_nil))))))).imp (fun os h => .inr rfl)
theorem ok_pair_times (F : FnP K "pair_times" s_pair_times f fd) (hm : mg "pair_times" = some (.ref f)) (D_without_noughts : Def P w K mg base "without_noughts" 1 1 M_without_noughts) : Def P w K mg base "pair_times" 2 2 M_pair_times :=
  (Def.ofD (N := N_pair_times) F sc_pair_times hm (FunD.bindsN (ps := ["one", "other"]) F fun _ _ _ _ _ _ us hl => match us, hl with | [_, _], _ => rfl) rfl B_pair_times (fun cdv A outer s H E Hf B => (dss_cons (ds_set (i := 2) true sc_pair_times.nd rfl (by first | exact Or.inl rfl | exact Or.inr rfl) de_dnew) (dss_cons (ds_forDI (i := 0) (m := 3) (n := 4) B sc_pair_times.nd (pv 0) rfl rfl (by first | exact Or.inl rfl | exact Or.inr rfl) (by first | exact Or.inl rfl | exact Or.inr rfl) (by first | exact Or.inl rfl | exact Or.inr rfl) (by first | exact Or.inl rfl | exact Or.inr rfl) (fun c B => (dss_one (ds_forDI (i := 1) (m := 5) (n := 6) B sc_pair_times.nd (pv 1) rfl rfl (by first | exact Or.inl rfl | exact Or.inr rfl) (by first | exact Or.inl rfl | exact Or.inr rfl) (by first | exact Or.inl rfl | exact Or.inr rfl) (by first | exact Or.inl rfl | exact Or.inr rfl) (fun c B => (dss_cons (ds_set (i := 7) false sc_pair_times.nd rfl (by first | exact Or.inl rfl | exact Or.inr rfl) (de_tup (da_cons (de_addA (de_ix (de_var (pv 3)) de_int) (de_ix (de_var (pv 5)) de_int)) (da_cons (de_addA (de_ix (de_var (pv 3)) de_int) (de_ix (de_var (pv 5)) de_int)) da_nil)))) (dss_one (ds_dputL (i := 2) B (pv 2) (de_addA (de_dget2 (i := 2) B (pv 2) (de_var (pv 7)) pe_int ⟨rfl, rfl, rfl, rfl⟩) (de_mulA (de_var (pv 4)) (de_var (pv 6)))) (de_var (pv 7)))))))))) (dss_one (ds_ret (de_call D_without_noughts B (by decide) rfl (da_cons (de_var (pv 2)) da_nil) rfl (hlen := (ar_cons ar_nil))))))))).imp (fun os h => .inr rfl)
theorem ok_Growth_step {cn : Str} (F : FunD K "step" "Growth.step" (defArgs s_Growth_step) (defBody s_Growth_step) (defScope s_Growth_step) [] [] f fd) (cl : Cls K (He.ga K cn)) (hm : Meth K (He.ga K cn) "step" f) (D_raised : Def P w K mg base "raised" 1 2 M_raised) (fl_fraction : FldF K TF_fraction "fraction") : DefM P w K mg base cn "step" 2 3 M_Growth_step :=
  (DefM.ofD (N := N_Growth_step) F sc_Growth_step cl hm (FunD.bindsN (ps := ["self", "i", "far"]) F fun _ _ _ _ _ _ us hl => match us, hl with | [_, _, _], _ => rfl) rfl B_Growth_step (fun cdv A outer s H E Hf B => (dss_one (ds_ret (de_dspT B (dps_cons (de_tup (da_cons de_int (da_cons de_int da_nil))) (de_mulA (de_ix (de_call D_raised B (by decide) rfl (da_cons (de_fld fl_fraction (de_var (pv 0))) (da_cons (de_var (pv 1)) da_nil)) rfl (hlen := (ar_cons (ar_cons ar_nil)))) de_int) (de_ix (de_call D_raised B (by decide) rfl (da_cons (de_fld fl_fraction (de_var (pv 0))) (da_cons (de_sub (de_var (pv 2)) (de_var (pv 1))) da_nil)) rfl (hlen := (ar_cons (ar_cons ar_nil)))) de_int)) dps_nil)))))).imp (fun os h => .inr rfl)
theorem ok_pair_of_form (F : FnP K "pair_of_form" s_pair_of_form f fd) (hm : mg "pair_of_form" = some (.ref f)) (D_without_noughts : Def P w K mg base "without_noughts" 1 1 M_without_noughts) : Def P w K mg base "pair_of_form" 2 1 M_pair_of_form :=
  (Def.ofD (N := N_pair_of_form) F sc_pair_of_form hm (FunD.bindsN (ps := ["form"]) F fun _ _ _ _ _ _ us hl => match us, hl with | [_], _ => rfl) rfl B_pair_of_form (fun cdv A outer s H E Hf B => (dss_one (ds_ret (de_call D_without_noughts B (by decide) rfl (da_cons (de_dspT B (dps_cons (de_tup (da_cons de_int (da_cons de_int da_nil))) (de_ix (de_var (pv 0)) de_int) (dps_cons (de_tup (da_cons de_int (da_cons de_int da_nil))) (de_ix (de_var (pv 0)) de_int) (dps_cons (de_tup (da_cons de_int (da_cons de_int da_nil))) (de_ix (de_var (pv 0)) de_int) dps_nil)))) da_nil) rfl (hlen := (ar_cons ar_nil))))))).imp (fun os h => .inr rfl)
theorem ok_low_forms (F : FnP K "low_forms" s_low_forms f fd) (hm : mg "low_forms" = some (.ref f)) (D_Term_told : DefM P w K mg base "Term" "told" 1 1 M_Term_told) : Def P w K mg base "low_forms" 2 1 M_low_forms :=
  (Def.ofD (N := N_low_forms) F sc_low_forms hm (FunD.bindsN (ps := ["term"]) F fun _ _ _ _ _ _ us hl => match us, hl with | [_], _ => rfl) rfl B_low_forms (fun cdv A outer s H E Hf B => (dss_cons (ds_set (i := 1) true sc_low_forms.nd rfl (by first | exact Or.inl rfl | exact Or.inr rfl) (de_lst da_nil)) (dss_cons (ds_for B (di_list (de_meth0 (pl := _) (tabCons ⟨_, by decide, D_Term_told⟩ tabNil) B (de_var (pv 0)))) (dg_name (i := 2) (vs := [2]) sc_low_forms.nd rfl (by first | exact Or.inl rfl | exact Or.inr rfl)) (dss_one (ds_if (dt_eq B (de_ix (de_var (pv 2)) de_int) de_str) (dss_cons (ds_set (i := 3) false sc_low_forms.nd rfl (by first | exact Or.inl rfl | exact Or.inr rfl) (de_ix (de_var (pv 2)) de_int)) (dss_cons (ds_set (i := 4) false sc_low_forms.nd rfl (by first | exact Or.inl rfl | exact Or.inr rfl) (de_ix (de_var (pv 2)) de_int)) (dss_cons (ds_app (i := 1) (pv 1) (de_var (pv 4))) (dss_one (ds_app (i := 1) (pv 1) (de_tup (da_cons (de_sub (de_ix (de_var (pv 3)) de_int) (de_ix (de_var (pv 4)) de_int)) (da_cons (de_sub (de_ix (de_var (pv 3)) de_int) (de_ix (de_var (pv 4)) de_int)) (da_cons (de_sub (de_ix (de_var (pv 3)) de_int) (de_ix (de_var (pv 4)) de_int)) da_nil))))))))) dss_nil))) (dss_one (ds_retV (pv 1))))))).imp (fun os h => .inr rfl)
theorem ok__law_any (F : FnP K "_law_any" s__law_any f fd) (hm : mg "_law_any" = some (.ref f)) (D__law_less : Def P w K mg base "_law_less" 1 2 M__law_less) : Def P w K mg base "_law_any" 2 2 M__law_any :=
  (Def.ofD (N := N__law_any) F sc__law_any hm (FunD.bindsN (ps := ["_law_cell", "_law_more"]) F fun _ _ _ _ _ _ us hl => match us, hl with | [_, _], _ => rfl) rfl B__law_any (fun cdv A outer s H E Hf B => (dss_cons (ds_set (i := 2) false sc__law_any.nd rfl (by first | exact Or.inl rfl | exact Or.inr rfl) (de_tup (da_cons (de_mod (de_var (pv 0)) de_int) (da_cons (de_mod (de_fdiv (de_var (pv 0)) de_int) de_int) (da_cons (de_mod (de_fdiv (de_var (pv 0)) de_int) de_int) da_nil))))) (dss_cons (ds_set (i := 3) false sc__law_any.nd rfl (by first | exact Or.inl rfl | exact Or.inr rfl) (de_tup (da_cons (de_sub (de_mod (de_var (pv 1)) de_int) de_int) (da_cons (de_sub (de_mod (de_fdiv (de_var (pv 1)) de_int) de_int) de_int) (da_cons (de_sub (de_mod (de_fdiv (de_var (pv 1)) de_int) de_int) de_int) da_nil))))) (dss_cons (ds_for B (di_list (de_lst (da_cons (de_var (pv 3)) (da_cons (de_call D__law_less B (by decide) rfl (da_cons (de_var (pv 2)) (da_cons (de_var (pv 3)) da_nil)) rfl (hlen := (ar_cons (ar_cons ar_nil)))) da_nil)))) (dg_name (i := 4) (vs := [4]) sc__law_any.nd rfl (by first | exact Or.inl rfl | exact Or.inr rfl)) (dss_one (ds_if (dt_w (dw_and (dt_eq B (de_ix (de_var (pv 4)) de_int) de_int) (dw_and1 (dt_lt (de_ix (de_var (pv 4)) de_int) de_int)))) (dss_one (ds_ret (de_tup (da_cons de_str (da_cons (de_tup (da_cons de_int (da_cons de_int (da_cons de_int da_nil)))) (da_cons (de_tup (da_cons de_int (da_cons de_int (da_cons de_int da_nil)))) da_nil)))))) dss_nil))) (dss_one (ds_ret (de_tup (da_cons de_str (da_cons (de_var (pv 2)) (da_cons (de_var (pv 3)) da_nil))))))))))).imp (fun os h => .inr rfl)
theorem ok_has_ends (F : FnP K "has_ends" s_has_ends f fd) (hm : mg "has_ends" = some (.ref f)) (D_low_forms : Def P w K mg base "low_forms" 2 1 M_low_forms) : Def P w K mg base "has_ends" 3 1 M_has_ends :=
  (Def.ofD (N := N_has_ends) F sc_has_ends hm (FunD.bindsN (ps := ["term"]) F fun _ _ _ _ _ _ us hl => match us, hl with | [_], _ => rfl) rfl B_has_ends (fun cdv A outer s H E Hf B => (dss_cons (ds_set (i := 1) false sc_has_ends.nd rfl (by first | exact Or.inl rfl | exact Or.inr rfl) de_bl) (dss_cons (ds_set (i := 2) false sc_has_ends.nd rfl (by first | exact Or.inl rfl | exact Or.inr rfl) de_bl) (dss_cons (ds_for B (di_list (de_call D_low_forms B (by decide) rfl (da_cons (de_var (pv 0)) da_nil) rfl (hlen := (ar_cons ar_nil)))) (dg_tup rfl (dgs_cons (dg_name (i := 3) (vs := [3, 4, 5]) sc_has_ends.nd rfl (by first | exact Or.inl rfl | exact Or.inr rfl)) (dgs_cons (dg_name (i := 4) (vs := [3, 4, 5]) sc_has_ends.nd rfl (by first | exact Or.inl rfl | exact Or.inr rfl)) (dgs_cons (dg_name (i := 5) (vs := [3, 4, 5]) sc_has_ends.nd rfl (by first | exact Or.inl rfl | exact Or.inr rfl)) dgs_nil)))) (dss_cons (ds_if (dt_w (dw_and (dt_lt (de_var (pv 4)) de_int) (dw_and (dt_le (de_addA (de_var (pv 3)) (de_var (pv 4))) de_int) (dw_and1 (dt_lt (de_addA (de_var (pv 4)) (de_var (pv 5))) de_int))))) (dss_one (ds_set (i := 1) false sc_has_ends.nd rfl (by first | exact Or.inl rfl | exact Or.inr rfl) de_bl)) dss_nil) (dss_one (ds_if (dt_w (dw_and (dt_eq B (de_var (pv 3)) de_int) (dw_and (dt_gt (de_var (pv 4)) de_int) (dw_and1 (dt_chain op_le op_lt pu_le pu_lt gInt_noexc de_int (de_var (pv 5)) (de_var (pv 4))))))) (dss_one (ds_set (i := 2) false sc_has_ends.nd rfl (by first | exact Or.inl rfl | exact Or.inr rfl) de_bl)) dss_nil)))) (dss_one (ds_ret (de_and (de_var (pv 1)) (de_one (de_var (pv 2))))))))))).imp (fun os h => .inr rfl)
theorem ok__law_ends (F : FnP K "_law_ends" s__law_ends f fd) (hm : mg "_law_ends" = some (.ref f)) (h_int : mg "int" = none) (D__law_lows : Def P w K mg base "_law_lows" 2 1 M__law_lows) : Def P w K mg base "_law_ends" 3 1 M__law_ends :=
  (Def.ofD (N := N__law_ends) F sc__law_ends hm (FunD.bindsN (ps := ["_law_parts_here"]) F fun _ _ _ _ _ _ us hl => match us, hl with | [_], _ => rfl) rfl B__law_ends (fun cdv A outer s H E Hf B => (dss_cons (ds_set (i := 1) false sc__law_ends.nd rfl (by first | exact Or.inl rfl | exact Or.inr rfl) de_int) (dss_cons (ds_set (i := 2) false sc__law_ends.nd rfl (by first | exact Or.inl rfl | exact Or.inr rfl) de_int) (dss_cons (ds_for B (di_list (de_var (pv 0))) (dg_name (i := 3) (vs := [3]) sc__law_ends.nd rfl (by first | exact Or.inl rfl | exact Or.inr rfl)) (dss_one (ds_if (dt_eq B (de_ix (de_var (pv 3)) de_int) de_str) (dss_one (ds_for B (di_list (de_call D__law_lows B (by decide) rfl (da_cons (de_var (pv 3)) da_nil) rfl (hlen := (ar_cons ar_nil)))) (dg_name (i := 4) (vs := [4]) sc__law_ends.nd rfl (by first | exact Or.inl rfl | exact Or.inr rfl)) (dss_cons (ds_set (i := 1) false sc__law_ends.nd rfl (by first | exact Or.inl rfl | exact Or.inr rfl) (de_addA (de_var (pv 1)) (de_Ty call_intB pc_intB rfl h_int (by decide +kernel) (da_cons (de_and (de_lt (de_ix (de_var (pv 4)) de_int) de_int) (de_and (de_le (de_addA (de_ix (de_var (pv 4)) de_int) (de_ix (de_var (pv 4)) de_int)) de_int) (de_one (de_lt (de_addA (de_ix (de_var (pv 4)) de_int) (de_ix (de_var (pv 4)) de_int)) de_int)))) da_nil)))) (dss_one (ds_set (i := 2) false sc__law_ends.nd rfl (by first | exact Or.inl rfl | exact Or.inr rfl) (de_addA (de_var (pv 2)) (de_Ty call_intB pc_intB rfl h_int (by decide +kernel) (da_cons (de_and (de_eq B (de_ix (de_var (pv 4)) de_int) de_int) (de_and (de_gt (de_ix (de_var (pv 4)) de_int) de_int) (de_and (de_ge (de_ix (de_var (pv 4)) de_int) de_int) (de_one (de_lt (de_ix (de_var (pv 4)) de_int) (de_ix (de_var (pv 4)) de_int)))))) da_nil)))))))) dss_nil))) (dss_one (ds_ret (de_and (de_gt (de_var (pv 1)) de_int) (de_one (de_gt (de_var (pv 2)) de_int)))))))))).imp (fun os h => .inr rfl)
theorem ok__law_up_and_down (F : FnP K "_law_up_and_down" s__law_up_and_down f fd) (hm : mg "_law_up_and_down" = some (.ref f)) (h_max : mg "max" = none) (D__law_lows : Def P w K mg base "_law_lows" 2 1 M__law_lows) : Def P w K mg base "_law_up_and_down" 3 2 M__law_up_and_down :=
  (Def.ofD (N := N__law_up_and_down) F sc__law_up_and_down hm (FunD.bindsN (ps := ["_law_parts_here", "_law_place"]) F fun _ _ _ _ _ _ us hl => match us, hl with | [_, _], _ => rfl) rfl B__law_up_and_down (fun cdv A outer s H E Hf B => (dss_cons (ds_set (i := 2) false sc__law_up_and_down.nd rfl (by first | exact Or.inl rfl | exact Or.inr rfl) de_int) (dss_cons (ds_set (i := 3) false sc__law_up_and_down.nd rfl (by first | exact Or.inl rfl | exact Or.inr rfl) de_int) (dss_cons (ds_for B (di_list (de_var (pv 0))) (dg_name (i := 4) (vs := [4]) sc__law_up_and_down.nd rfl (by first | exact Or.inl rfl | exact Or.inr rfl)) (dss_one (ds_if (dt_eq B (de_ix (de_var (pv 4)) de_int) de_str) (dss_cons (ds_if (dt_ne B (de_ix (de_ix (de_var (pv 4)) de_int) (de_var (pv 1))) de_int) (dss_one (ds_set (i := 2) false sc__law_up_and_down.nd rfl (by first | exact Or.inl rfl | exact Or.inr rfl) (de_addA (de_var (pv 2)) (de_ix (de_ix (de_var (pv 4)) de_int) de_int)))) dss_nil) (dss_one (ds_for B (di_list (de_call D__law_lows B (by decide) rfl (da_cons (de_var (pv 4)) da_nil) rfl (hlen := (ar_cons ar_nil)))) (dg_name (i := 5) (vs := [5]) sc__law_up_and_down.nd rfl (by first | exact Or.inl rfl | exact Or.inr rfl)) (dss_cons (ds_if (dt_w (dw_and (dt_ne B (de_ix (de_var (pv 5)) (de_var (pv 1))) de_int) (dw_and1 (dt_lt (de_ix (de_var (pv 5)) de_int) de_int)))) (dss_one (ds_set (i := 2) false sc__law_up_and_down.nd rfl (by first | exact Or.inl rfl | exact Or.inr rfl) (de_sub (de_var (pv 2)) (de_ix (de_var (pv 5)) de_int)))) dss_nil) (dss_one (ds_if (dt_w (dw_and (dt_ne B (de_ix (de_var (pv 5)) (de_var (pv 1))) de_int) (dw_and1 (dt_gt (de_ix (de_var (pv 5)) de_int) de_int)))) (dss_one (ds_set (i := 3) false sc__law_up_and_down.nd rfl (by first | exact Or.inl rfl | exact Or.inr rfl) (de_addA (de_var (pv 3)) (de_ix (de_var (pv 5)) de_int)))) dss_nil)))))) dss_nil))) (dss_one (ds_ret (de_B (call_max2 rfl) pc_max2 rfl h_max (by decide +kernel) (da_cons (de_var (pv 2)) (da_cons (de_var (pv 3)) da_nil)))))))))).imp (fun os h => .inr rfl)
theorem ok_made_part (F : FnP K "made_part" s_made_part f fd) (hm : mg "made_part" = some (.ref f)) (rx_NoTerm : DL.Rx K mg "NoTerm") (D_is_choose : Def P w K mg base "is_choose" 2 2 M_is_choose) (I_Choose : DefI P w K mg base "Choose" 1 2 M_Choose___init__) (I_Weight : DefI P w K mg base "Weight" 1 1 M_Weight___init__) (I_Power : DefI P w K mg base "Power" 1 1 M_Power___init__) (I_Growth : DefI P w K mg base "Growth" 1 1 M_Growth___init__) : Def P w K mg base "made_part" 3 1 M_made_part :=
  (Def.ofD (N := N_made_part) F sc_made_part hm (FunD.bindsN (ps := ["part"]) F fun _ _ _ _ _ _ us hl => match us, hl with | [_], _ => rfl) rfl B_made_part (fun cdv A outer s H E Hf B => (dss_cons (ds_set (i := 1) false sc_made_part.nd rfl (by first | exact Or.inl rfl | exact Or.inr rfl) (de_ix (de_var (pv 0)) de_int)) (dss_cons (ds_if (dt_w (dw_and (dt_eq B (de_var (pv 1)) de_str) (dw_and1 (dt_val (de_call D_is_choose B (by decide) rfl (da_cons (de_ix (de_var (pv 0)) de_int) (da_cons (de_ix (de_var (pv 0)) de_int) da_nil)) rfl (hlen := (ar_cons (ar_cons ar_nil)))))))) (dss_one (ds_ret (de_make I_Choose B (by decide) rfl (da_cons (de_ix (de_var (pv 0)) de_int) (da_cons (de_ix (de_var (pv 0)) de_int) da_nil)) (hlen := (ar_cons (ar_cons ar_nil)))))) dss_nil) (dss_cons (ds_if (dt_eq B (de_var (pv 1)) de_str) (dss_one (ds_ret (de_make I_Weight B (by decide) rfl (da_cons (de_ix (de_var (pv 0)) de_int) da_nil) (hlen := (ar_cons ar_nil))))) dss_nil) (dss_cons (ds_if (dt_w (dw_and (dt_eq B (de_var (pv 1)) de_str) (dw_and1 (dt_ne B (de_ix (de_ix (de_var (pv 0)) de_int) de_int) de_int)))) (dss_one (ds_ret (de_make I_Power B (by decide) rfl (da_cons (de_ix (de_var (pv 0)) de_int) da_nil) (hlen := (ar_cons ar_nil))))) dss_nil) (dss_cons (ds_if (dt_w (dw_and (dt_eq B (de_var (pv 1)) de_str) (dw_and1 (dt_ne B (de_ix (de_ix (de_var (pv 0)) de_int) de_int) de_int)))) (dss_one (ds_ret (de_make I_Growth B (by decide) rfl (da_cons (de_ix (de_var (pv 0)) de_int) da_nil) (hlen := (ar_cons ar_nil))))) dss_nil) (dss_one (ds_raise rx_NoTerm B rfl))))))))).imp (fun os h => .inr rfl)
theorem ok__law_step (F : FnP K "_law_step" s__law_step f fd) (hm : mg "_law_step" = some (.ref f)) (h_int : mg "int" = none) (h_max : mg "max" = none) (D__law_lows : Def P w K mg base "_law_lows" 2 1 M__law_lows) : Def P w K mg base "_law_step" 3 4 M__law_step :=
  (Def.ofD (N := N__law_step) F sc__law_step hm (FunD.bindsN (ps := ["_law_parts_here", "_law_i", "_law_far", "_law_place"]) F fun _ _ _ _ _ _ us hl => match us, hl with | [_, _, _, _], _ => rfl) rfl B__law_step (fun cdv A outer s H E Hf B => (dss_cons (ds_set (i := 4) false sc__law_step.nd rfl (by first | exact Or.inl rfl | exact Or.inr rfl) de_int) (dss_cons (ds_for B (di_list (de_var (pv 0))) (dg_name (i := 5) (vs := [5]) sc__law_step.nd rfl (by first | exact Or.inl rfl | exact Or.inr rfl)) (dss_cons (ds_if (dt_eq B (de_ix (de_var (pv 5)) de_int) de_str) (dss_cons (ds_if (dt_eq B (de_ix (de_var (pv 5)) de_int) (de_tup (da_cons de_int (da_cons de_int (da_cons de_int da_nil))))) (dss_one (ds_ret de_int)) dss_nil) (dss_one (ds_set (i := 4) false sc__law_step.nd rfl (by first | exact Or.inl rfl | exact Or.inr rfl) (de_addA (de_var (pv 4)) (de_Ty call_intB pc_intB rfl h_int (by decide +kernel) (da_cons (de_ne B (de_ix (de_ix (de_var (pv 5)) de_int) (de_var (pv 3))) de_int) da_nil)))))) dss_nil) (dss_one (ds_if (dt_eq B (de_ix (de_var (pv 5)) de_int) de_str) (dss_cons (ds_if (dt_ne B (de_ix (de_ix (de_var (pv 5)) de_int) (de_var (pv 3))) de_int) (dss_one (ds_set (i := 4) false sc__law_step.nd rfl (by first | exact Or.inl rfl | exact Or.inr rfl) (de_addA (de_var (pv 4)) (de_mulA (de_var (pv 1)) (de_ix (de_ix (de_var (pv 5)) de_int) de_int))))) dss_nil) (dss_one (ds_for B (di_list (de_call D__law_lows B (by decide) rfl (da_cons (de_var (pv 5)) da_nil) rfl (hlen := (ar_cons ar_nil)))) (dg_name (i := 6) (vs := [6]) sc__law_step.nd rfl (by first | exact Or.inl rfl | exact Or.inr rfl)) (dss_one (ds_if (dt_ne B (de_ix (de_var (pv 6)) (de_var (pv 3))) de_int) (dss_one (ds_set (i := 4) false sc__law_step.nd rfl (by first | exact Or.inl rfl | exact Or.inr rfl) (de_sub (de_addA (de_var (pv 4)) (de_mulA (de_B (call_max2 rfl) pc_max2 rfl h_max (by decide +kernel) (da_cons de_int (da_cons (de_ix (de_var (pv 6)) de_int) da_nil))) (de_var (pv 2)))) (de_mulA (de_ix (de_var (pv 6)) de_int) (de_var (pv 1)))))) dss_nil))))) dss_nil)))) (dss_one (ds_ret (de_var (pv 4)))))))).imp (fun os h => .inr rfl)
theorem ok_Weight_step {cn : Str} (F : FunD K "step" "Weight.step" (defArgs s_Weight_step) (defBody s_Weight_step) (defScope s_Weight_step) [] [] f fd) (cl : Cls K (He.ga K cn)) (hm : Meth K (He.ga K cn) "step" f) (D_pair_of_form : Def P w K mg base "pair_of_form" 2 1 M_pair_of_form) (fl_form : FldF K TF_form "form") : DefM P w K mg base cn "step" 3 3 M_Weight_step :=
  (DefM.ofD (N := N_Weight_step) F sc_Weight_step cl hm (FunD.bindsN (ps := ["self", "i", "far"]) F fun _ _ _ _ _ _ us hl => match us, hl with | [_, _, _], _ => rfl) rfl B_Weight_step (fun cdv A outer s H E Hf B => (dss_one (ds_ret (de_call D_pair_of_form B (by decide) rfl (da_cons (de_tup (da_cons (de_ix (de_fld fl_form (de_var (pv 0))) de_int) (da_cons (de_ix (de_fld fl_form (de_var (pv 0))) de_int) (da_cons (de_addA (de_ix (de_fld fl_form (de_var (pv 0))) de_int) (de_mulA (de_var (pv 1)) (de_ix (de_fld fl_form (de_var (pv 0))) de_int))) da_nil)))) da_nil) rfl (hlen := (ar_cons ar_nil))))))).imp (fun os h => .inr rfl)
theorem ok_rising (F : FnP K "rising" s_rising f fd) (hm : mg "rising" = some (.ref f)) (h_range : mg "range" = none) (D_pair_times : Def P w K mg base "pair_times" 2 2 M_pair_times) (D_pair_of_form : Def P w K mg base "pair_of_form" 2 1 M_pair_of_form) : Def P w K mg base "rising" 3 3 M_rising :=
  (Def.ofD (N := N_rising) F sc_rising hm (FunD.bindsN (ps := ["form", "low", "high"]) F fun _ _ _ _ _ _ us hl => match us, hl with | [_, _, _], _ => rfl) rfl B_rising (fun cdv A outer s H E Hf B => (dss_cons (ds_set (i := 3) false sc_rising.nd rfl (by first | exact Or.inl rfl | exact Or.inr rfl) (de_dspT B (dps_cons (de_tup (da_cons de_int (da_cons de_int da_nil))) de_int dps_nil))) (dss_cons (ds_for B (di_rng2 rfl h_range (da_cons (de_var (pv 1)) (da_cons (de_addA (de_var (pv 2)) de_int) da_nil))) (dg_name (i := 4) (vs := [4]) sc_rising.nd rfl (by first | exact Or.inl rfl | exact Or.inr rfl)) (dss_one (ds_set (i := 3) false sc_rising.nd rfl (by first | exact Or.inl rfl | exact Or.inr rfl) (de_call D_pair_times B (by decide) rfl (da_cons (de_var (pv 3)) (da_cons (de_call D_pair_of_form B (by decide) rfl (da_cons (de_tup (da_cons (de_ix (de_var (pv 0)) de_int) (da_cons (de_ix (de_var (pv 0)) de_int) (da_cons (de_addA (de_ix (de_var (pv 0)) de_int) (de_var (pv 4))) da_nil)))) da_nil) rfl (hlen := (ar_cons ar_nil))) da_nil)) rfl (hlen := (ar_cons (ar_cons ar_nil))))))) (dss_one (ds_ret (de_var (pv 3)))))))).imp (fun os h => .inr rfl)
theorem ok__law_choose (F : FnP K "_law_choose" s__law_choose f fd) (hm : mg "_law_choose" = some (.ref f)) (D__law_cell_at : Def P w K mg base "_law_cell_at" 1 2 M__law_cell_at) (D__law_any : Def P w K mg base "_law_any" 2 2 M__law_any) : Def P w K mg base "_law_choose" 3 2 M__law_choose :=
  (Def.ofD (N := N__law_choose) F sc__law_choose hm (FunD.bindsN (ps := ["_law_script", "_law_at"]) F fun _ _ _ _ _ _ us hl => match us, hl with | [_, _], _ => rfl) rfl B__law_choose (fun cdv A outer s H E Hf B => (dss_cons (ds_set (i := 2) false sc__law_choose.nd rfl (by first | exact Or.inl rfl | exact Or.inr rfl) (de_call D__law_cell_at B (by decide) rfl (da_cons (de_var (pv 0)) (da_cons (de_var (pv 1)) da_nil)) rfl (hlen := (ar_cons (ar_cons ar_nil))))) (dss_cons (ds_set (i := 3) false sc__law_choose.nd rfl (by first | exact Or.inl rfl | exact Or.inr rfl) (de_mod (de_var (pv 2)) de_int)) (dss_cons (ds_set (i := 4) false sc__law_choose.nd rfl (by first | exact Or.inl rfl | exact Or.inr rfl) (de_mod (de_fdiv (de_var (pv 2)) de_int) de_int)) (dss_cons (ds_if (dt_lt (de_var (pv 3)) de_int) (dss_one (ds_ret (de_tup (da_cons de_str (da_cons (de_tup (da_cons de_int (da_cons de_int (da_cons (de_var (pv 4)) da_nil)))) (da_cons (de_tup (da_cons de_int (da_cons de_int (da_cons de_int da_nil)))) da_nil)))))) dss_nil) (dss_cons (ds_if (dt_eq B (de_var (pv 3)) de_int) (dss_one (ds_ret (de_tup (da_cons de_str (da_cons (de_tup (da_cons de_int (da_cons de_int (da_cons (de_var (pv 4)) da_nil)))) (da_cons (de_tup (da_cons de_int (da_cons de_int (da_cons de_int da_nil)))) da_nil)))))) dss_nil) (dss_cons (ds_if (dt_eq B (de_var (pv 3)) de_int) (dss_one (ds_ret (de_tup (da_cons de_str (da_cons (de_tup (da_cons de_int (da_cons de_int (da_cons de_int da_nil)))) (da_cons (de_tup (da_cons de_int (da_cons de_int (da_cons (de_sub (de_var (pv 4)) de_int) da_nil)))) da_nil)))))) dss_nil) (dss_cons (ds_if (dt_eq B (de_var (pv 3)) de_int) (dss_one (ds_ret (de_tup (da_cons de_str (da_cons (de_tup (da_cons de_int (da_cons de_int (da_cons de_int da_nil)))) (da_cons (de_tup (da_cons de_int (da_cons de_int (da_cons de_int da_nil)))) da_nil)))))) dss_nil) (dss_cons (ds_if (dt_eq B (de_var (pv 3)) de_int) (dss_one (ds_ret (de_tup (da_cons de_str (da_cons (de_tup (da_cons de_int (da_cons de_int (da_cons (de_var (pv 4)) da_nil)))) (da_cons (de_tup (da_cons de_int (da_cons de_int (da_cons de_int da_nil)))) da_nil)))))) dss_nil) (dss_one (ds_ret (de_call D__law_any B (by decide) rfl (da_cons (de_fdiv (de_var (pv 2)) de_int) (da_cons (de_call D__law_cell_at B (by decide) rfl (da_cons (de_var (pv 0)) (da_cons (de_addA (de_var (pv 1)) de_int) da_nil)) rfl (hlen := (ar_cons (ar_cons ar_nil)))) da_nil)) rfl (hlen := (ar_cons (ar_cons ar_nil)))))))))))))))).imp (fun os h => .inr rfl)
theorem ok__law_parts (F : FnP K "_law_parts" s__law_parts f fd) (hm : mg "_law_parts" = some (.ref f)) (h_len : mg "len" = none) (h_range : mg "range" = none) (D__law_cell_at : Def P w K mg base "_law_cell_at" 1 2 M__law_cell_at) (D__law_choose : Def P w K mg base "_law_choose" 3 2 M__law_choose) (D__law_fraction : Def P w K mg base "_law_fraction" 1 1 M__law_fraction) : Def P w K mg base "_law_parts" 4 1 M__law_parts :=
  (Def.ofD (N := N__law_parts) F sc__law_parts hm (FunD.bindsN (ps := ["_law_script"]) F fun _ _ _ _ _ _ us hl => match us, hl with | [_], _ => rfl) rfl B__law_parts (fun cdv A outer s H E Hf B => (dss_cons (ds_set (i := 1) false sc__law_parts.nd rfl (by first | exact Or.inl rfl | exact Or.inr rfl) (de_call D__law_cell_at B (by decide) rfl (da_cons (de_var (pv 0)) (da_cons de_int da_nil)) rfl (hlen := (ar_cons (ar_cons ar_nil))))) (dss_cons (ds_set (i := 2) true sc__law_parts.nd rfl (by first | exact Or.inl rfl | exact Or.inr rfl) (de_lst (da_cons (de_call D__law_choose B (by decide) rfl (da_cons (de_var (pv 0)) (da_cons de_int da_nil)) rfl (hlen := (ar_cons (ar_cons ar_nil)))) da_nil))) (dss_cons (ds_if (dt_eq B (de_mod (de_var (pv 1)) de_int) de_int) (dss_one (ds_app (i := 2) (pv 2) (de_call D__law_choose B (by decide) rfl (da_cons (de_var (pv 0)) (da_cons de_int da_nil)) rfl (hlen := (ar_cons (ar_cons ar_nil)))))) dss_nil) (dss_cons (ds_for B (di_rng1 rfl h_range (da_cons (de_mod (de_fdiv (de_var (pv 1)) de_int) de_int) da_nil)) (dg_name (i := 3) (vs := [3]) sc__law_parts.nd rfl (by first | exact Or.inl rfl | exact Or.inr rfl)) (dss_cons (ds_set (i := 4) false sc__law_parts.nd rfl (by first | exact Or.inl rfl | exact Or.inr rfl) (de_call D__law_cell_at B (by decide) rfl (da_cons (de_var (pv 0)) (da_cons (de_addA de_int (de_var (pv 3))) da_nil)) rfl (hlen := (ar_cons (ar_cons ar_nil))))) (dss_one (ds_app (i := 2) (pv 2) (de_tup (da_cons de_str (da_cons (de_tup (da_cons (de_sub (de_mod (de_var (pv 4)) de_int) de_int) (da_cons (de_sub (de_mod (de_fdiv (de_var (pv 4)) de_int) de_int) de_int) (da_cons (de_sub (de_mod (de_fdiv (de_var (pv 4)) de_int) de_int) de_int) da_nil)))) da_nil))))))) (dss_cons (ds_if (dt_eq B (de_mod (de_fdiv (de_var (pv 1)) de_int) de_int) de_int) (dss_one (ds_app (i := 2) (pv 2) (de_tup (da_cons de_str (da_cons (de_call D__law_fraction B (by decide) rfl (da_cons (de_call D__law_cell_at B (by decide) rfl (da_cons (de_var (pv 0)) (da_cons de_int da_nil)) rfl (hlen := (ar_cons (ar_cons ar_nil)))) da_nil) rfl (hlen := (ar_cons ar_nil))) da_nil))))) dss_nil) (dss_cons (ds_if (dt_eq B (de_mod (de_fdiv (de_var (pv 1)) de_int) de_int) de_int) (dss_one (ds_app (i := 2) (pv 2) (de_tup (da_cons de_str (da_cons (de_call D__law_fraction B (by decide) rfl (da_cons (de_call D__law_cell_at B (by decide) rfl (da_cons (de_var (pv 0)) (da_cons de_int da_nil)) rfl (hlen := (ar_cons (ar_cons ar_nil)))) da_nil) rfl (hlen := (ar_cons ar_nil))) da_nil))))) dss_nil) (dss_cons (ds_set (i := 5) false sc__law_parts.nd rfl (by first | exact Or.inl rfl | exact Or.inr rfl) (de_mod (de_fdiv (de_var (pv 1)) de_int) (de_len rfl h_len (da_cons (de_var (pv 2)) da_nil)))) (dss_one (ds_ret (de_addA (de_sl (de_var (pv 2)) (dp_some (de_var (pv 5))) dp_none) (de_sl (de_var (pv 2)) dp_none (dp_some (de_var (pv 5)))))))))))))))).imp (fun os h => .inr rfl)
theorem ok_Term___init__ {cn : Str} (hcn : cn = "Term") (F : FunD K "__init__" "Term.__init__" (defArgs s_Term___init__) (defBody s_Term___init__) (defScope s_Term___init__) [] [] f fd) (mk : Mk K (He.ga K cn) f) (hm : mg cn = some (.ref (He.ga K cn))) (h_len : mg "len" = none) (h_list : mg "list" = none) (rx_NoTerm : DL.Rx K mg "NoTerm") (c_MOST : ∃ t, mg "MOST" = some (.int 6 t)) (D_made_part : Def P w K mg base "made_part" 3 1 M_made_part) (fl_made : FldF K TF_made "made") (fl_words : FldF K TF_words "words") : DefI P w K mg base cn 4 1 M_Term___init__ := by
  subst hcn
  exact DefI.ofD (N := N_Term___init__) F sc_Term___init__ mk hm (FunD.bindsN (ps := ["self", "parts"]) F fun _ _ _ _ _ _ us hl => match us, hl with | [_, _], _ => rfl) rfl (by decide) B_Term___init__ M_Term___init__ (fun cdv A outer s H H0 E Hf B => (dss_cons (ds_if (dt_w (dw_or (dt_eq B (de_var (pv 1)) (de_lst da_nil)) (dw_or1 (dt_gt (de_len rfl h_len (da_cons (de_var (pv 1)) da_nil)) (de_c (pe_glob (v := .int 6) rfl c_MOST.choose_spec ⟨_, rfl⟩) (fun _ => rfl)))))) (dss_one (ds_raise rx_NoTerm B rfl)) dss_nil) (dss_cons (ds_fldM (i := 0) fl_made (pv 0) (de_lc (own := [("part", 2)]) B sc_Term___init__.nd (di_list (de_var (pv 1))) (blkOk_by (own := [("part", 2)]) (N := N_Term___init__) (sc := defScope s_Term___init__) (by decide +kernel)) (fun _ _ _ _ _ => (dg_name (i := 2) (vs := [2]) sc_Term___init__.nd rfl (by first | exact Or.inl rfl | exact Or.inr rfl))) (fun _ _ _ _ _ => (de_call D_made_part (Bk.blk B) (by decide) rfl (da_cons (de_var (pv 2)) da_nil) rfl (hlen := (ar_cons ar_nil)))))) (dss_one (ds_fldM (i := 0) fl_words (pv 0) (de_Ty call_list_of pc_list rfl h_list (by decide +kernel) (da_cons (de_var (pv 1)) da_nil))))))) imp_Term___init__
theorem ok_Choose_up {cn : Str} (F : FunD K "up" "Choose.up" (defArgs s_Choose_up) (defBody s_Choose_up) (defScope s_Choose_up) [] [] f fd) (cl : Cls K (He.ga K cn)) (hm : Meth K (He.ga K cn) "up" f) (D_rising : Def P w K mg base "rising" 3 3 M_rising) (D_pair_times : Def P w K mg base "pair_times" 2 2 M_pair_times) (D_Choose_raised_lows : DefM P w K mg base "Choose" "raised_lows" 1 2 M_Choose_raised_lows) (fl_high : FldF K TF_high "high") : DefM P w K mg base cn "up" 4 2 M_Choose_up :=
  (DefM.ofD (N := N_Choose_up) F sc_Choose_up cl hm (FunD.bindsN (ps := ["self", "far"]) F fun _ _ _ _ _ _ us hl => match us, hl with | [_, _], _ => rfl) rfl B_Choose_up (fun cdv A outer s H E Hf B => (dss_cons (ds_set (i := 2) false sc_Choose_up.nd rfl (by first | exact Or.inl rfl | exact Or.inr rfl) (de_call D_rising B (by decide) rfl (da_cons (de_fld fl_high (de_var (pv 0))) (da_cons de_int (da_cons (de_ix (de_fld fl_high (de_var (pv 0))) de_int) da_nil))) rfl (hlen := (ar_cons (ar_cons (ar_cons ar_nil)))))) (dss_cons (ds_for B (di_list (de_meth (pl := _) (tabCons ⟨_, by decide, D_Choose_raised_lows⟩ tabNil) B (de_var (pv 0)) (da_cons (de_var (pv 1)) da_nil) (fun r os h => congrArg (· + 1) ((ar_cons ar_nil) r os h)))) (dg_name (i := 3) (vs := [3]) sc_Choose_up.nd rfl (by first | exact Or.inl rfl | exact Or.inr rfl)) (dss_one (ds_set (i := 2) false sc_Choose_up.nd rfl (by first | exact Or.inl rfl | exact Or.inr rfl) (de_call D_pair_times B (by decide) rfl (da_cons (de_var (pv 2)) (da_cons (de_call D_rising B (by decide) rfl (da_cons (de_var (pv 3)) (da_cons (de_addA (de_ix (de_var (pv 3)) de_int) de_int) (da_cons de_int da_nil))) rfl (hlen := (ar_cons (ar_cons (ar_cons ar_nil))))) da_nil)) rfl (hlen := (ar_cons (ar_cons ar_nil))))))) (dss_one (ds_ret (de_var (pv 2)))))))).imp (fun os h => .inr rfl)
theorem ok_Choose_down {cn : Str} (F : FunD K "down" "Choose.down" (defArgs s_Choose_down) (defBody s_Choose_down) (defScope s_Choose_down) [] [] f fd) (cl : Cls K (He.ga K cn)) (hm : Meth K (He.ga K cn) "down" f) (D_pair_times : Def P w K mg base "pair_times" 2 2 M_pair_times) (D_rising : Def P w K mg base "rising" 3 3 M_rising) (D_Choose_raised_lows : DefM P w K mg base "Choose" "raised_lows" 1 2 M_Choose_raised_lows) : DefM P w K mg base cn "down" 4 2 M_Choose_down :=
  (DefM.ofD (N := N_Choose_down) F sc_Choose_down cl hm (FunD.bindsN (ps := ["self", "far"]) F fun _ _ _ _ _ _ us hl => match us, hl with | [_, _], _ => rfl) rfl B_Choose_down (fun cdv A outer s H E Hf B => (dss_cons (ds_set (i := 2) false sc_Choose_down.nd rfl (by first | exact Or.inl rfl | exact Or.inr rfl) (de_dspT B (dps_cons (de_tup (da_cons de_int (da_cons de_int da_nil))) de_int dps_nil))) (dss_cons (ds_for B (di_list (de_meth (pl := _) (tabCons ⟨_, by decide, D_Choose_raised_lows⟩ tabNil) B (de_var (pv 0)) (da_cons (de_var (pv 1)) da_nil) (fun r os h => congrArg (· + 1) ((ar_cons ar_nil) r os h)))) (dg_name (i := 3) (vs := [3]) sc_Choose_down.nd rfl (by first | exact Or.inl rfl | exact Or.inr rfl)) (dss_one (ds_set (i := 2) false sc_Choose_down.nd rfl (by first | exact Or.inl rfl | exact Or.inr rfl) (de_call D_pair_times B (by decide) rfl (da_cons (de_var (pv 2)) (da_cons (de_call D_rising B (by decide) rfl (da_cons (de_var (pv 3)) (da_cons de_int (da_cons (de_ix (de_var (pv 3)) de_int) da_nil))) rfl (hlen := (ar_cons (ar_cons (ar_cons ar_nil))))) da_nil)) rfl (hlen := (ar_cons (ar_cons ar_nil))))))) (dss_one (ds_ret (de_var (pv 2)))))))).imp (fun os h => .inr rfl)
theorem ok_Choose_step {cn : Str} (F : FunD K "step" "Choose.step" (defArgs s_Choose_step) (defBody s_Choose_step) (defScope s_Choose_step) [] [] f fd) (cl : Cls K (He.ga K cn)) (hm : Meth K (He.ga K cn) "step" f) (h_max : mg "max" = none) (D_rising : Def P w K mg base "rising" 3 3 M_rising) (D_pair_times : Def P w K mg base "pair_times" 2 2 M_pair_times) (fl_high : FldF K TF_high "high") (fl_lows : FldF K TF_lows "lows") : DefM P w K mg base cn "step" 4 3 M_Choose_step :=
  (DefM.ofD (N := N_Choose_step) F sc_Choose_step cl hm (FunD.bindsN (ps := ["self", "i", "far"]) F fun _ _ _ _ _ _ us hl => match us, hl with | [_, _, _], _ => rfl) rfl B_Choose_step (fun cdv A outer s H E Hf B => (dss_cons (ds_set (i := 3) false sc_Choose_step.nd rfl (by first | exact Or.inl rfl | exact Or.inr rfl) (de_call D_rising B (by decide) rfl (da_cons (de_fld fl_high (de_var (pv 0))) (da_cons de_int (da_cons (de_mulA (de_var (pv 1)) (de_ix (de_fld fl_high (de_var (pv 0))) de_int)) da_nil))) rfl (hlen := (ar_cons (ar_cons (ar_cons ar_nil)))))) (dss_cons (ds_for B (di_list (de_fld fl_lows (de_var (pv 0)))) (dg_name (i := 4) (vs := [4]) sc_Choose_step.nd rfl (by first | exact Or.inl rfl | exact Or.inr rfl)) (dss_one (ds_set (i := 3) false sc_Choose_step.nd rfl (by first | exact Or.inl rfl | exact Or.inr rfl) (de_call D_pair_times B (by decide) rfl (da_cons (de_var (pv 3)) (da_cons (de_call D_rising B (by decide) rfl (da_cons (de_var (pv 4)) (da_cons (de_addA (de_mulA (de_var (pv 1)) (de_ix (de_var (pv 4)) de_int)) de_int) (da_cons (de_B (call_max2 rfl) pc_max2 rfl h_max (by decide +kernel) (da_cons de_int (da_cons (de_mulA (de_var (pv 2)) (de_ix (de_var (pv 4)) de_int)) da_nil))) da_nil))) rfl (hlen := (ar_cons (ar_cons (ar_cons ar_nil))))) da_nil)) rfl (hlen := (ar_cons (ar_cons ar_nil))))))) (dss_one (ds_ret (de_var (pv 3)))))))).imp (fun os h => .inr rfl)
theorem ok_Term_frame {cn : Str} (F : FunD K "frame" "Term.frame" (defArgs s_Term_frame) (defBody s_Term_frame) (defScope s_Term_frame) [] [] f fd) (cl : Cls K (He.ga K cn)) (hm : Meth K (He.ga K cn) "frame" f) (h_enumerate : mg "enumerate" = none) (h_range : mg "range" = none) (D_pair_times : Def P w K mg base "pair_times" 2 2 M_pair_times) (D_Choose_up : DefM P w K mg base "Choose" "up" 4 2 M_Choose_up) (D_Weight_up : DefM P w K mg base "Weight" "up" 1 2 M_Part_up) (D_Power_up : DefM P w K mg base "Power" "up" 1 2 M_Power_up) (D_Growth_up : DefM P w K mg base "Growth" "up" 1 2 M_Part_up) (D_Choose_down : DefM P w K mg base "Choose" "down" 4 2 M_Choose_down) (D_Weight_down : DefM P w K mg base "Weight" "down" 1 2 M_Part_down) (D_Power_down : DefM P w K mg base "Power" "down" 1 2 M_Power_down) (D_Growth_down : DefM P w K mg base "Growth" "down" 1 2 M_Part_down) (D_Choose_step : DefM P w K mg base "Choose" "step" 4 3 M_Choose_step) (D_Weight_step : DefM P w K mg base "Weight" "step" 3 3 M_Weight_step) (D_Power_step : DefM P w K mg base "Power" "step" 1 3 M_Part_step) (D_Growth_step : DefM P w K mg base "Growth" "step" 2 3 M_Growth_step) (fl_made : FldF K TF_made "made") : DefM P w K mg base cn "frame" 5 2 M_Term_frame :=
  (DefM.ofD (N := N_Term_frame) F sc_Term_frame cl hm (FunD.bindsN (ps := ["self", "far"]) F fun _ _ _ _ _ _ us hl => match us, hl with | [_, _], _ => rfl) rfl B_Term_frame (fun cdv A outer s H E Hf B => (dss_cons (by first | exact (ds_lc (own := [("i", 6)]) (i := 2) false B sc_Term_frame.nd rfl rfl (sw_true rfl rfl rfl (by decide +kernel)) (di_rng1 rfl h_range (da_cons (de_addA (de_var (pv 1)) de_int) da_nil)) (blkOk_by (own := [("i", 6)]) (N := N_Term_frame) (sc := defScope s_Term_frame) (by decide +kernel)) (fun _ _ _ _ _ => (dg_name (i := 6) (vs := [6]) sc_Term_frame.nd rfl (by first | exact Or.inl rfl | exact Or.inr rfl))) (fun _ _ _ _ _ => (de_dspT (Bk.blk B) (dps_cons (de_tup (da_cons de_int (da_cons de_int da_nil))) de_int dps_nil)))) | exact (ds_set (i := 2) false sc_Term_frame.nd rfl (by first | exact Or.inl rfl | exact Or.inr rfl) (de_lc (own := [("i", 6)]) B sc_Term_frame.nd (di_rng1 rfl h_range (da_cons (de_addA (de_var (pv 1)) de_int) da_nil)) (blkOk_by (own := [("i", 6)]) (N := N_Term_frame) (sc := defScope s_Term_frame) (by decide +kernel)) (fun _ _ _ _ _ => (dg_name (i := 6) (vs := [6]) sc_Term_frame.nd rfl (by first | exact Or.inl rfl | exact Or.inr rfl))) (fun _ _ _ _ _ => (de_dspT (Bk.blk B) (dps_cons (de_tup (da_cons de_int (da_cons de_int da_nil))) de_int dps_nil)))))) (dss_cons (ds_set (i := 3) false sc_Term_frame.nd rfl (by first | exact Or.inl rfl | exact Or.inr rfl) (de_dspT B (dps_cons (de_tup (da_cons de_int (da_cons de_int da_nil))) de_int dps_nil))) (dss_cons (ds_set (i := 4) false sc_Term_frame.nd rfl (by first | exact Or.inl rfl | exact Or.inr rfl) (de_dspT B (dps_cons (de_tup (da_cons de_int (da_cons de_int da_nil))) de_int dps_nil))) (dss_cons (ds_for B (di_list (de_fld fl_made (de_var (pv 0)))) (dg_name (i := 5) (vs := [5]) sc_Term_frame.nd rfl (by first | exact Or.inl rfl | exact Or.inr rfl)) (dss_cons (by first | exact (ds_lc (own := [("i", 6), ("step", 7)]) (i := 2) false B sc_Term_frame.nd rfl rfl (sw_true rfl rfl rfl (by decide +kernel)) (di_enum rfl h_enumerate (de_var (pv 2))) (blkOk_by (own := [("i", 6), ("step", 7)]) (N := N_Term_frame) (sc := defScope s_Term_frame) (by decide +kernel)) (fun _ _ _ _ _ => (dg_tup rfl (dgs_cons (dg_name (i := 6) (vs := [6, 7]) sc_Term_frame.nd rfl (by first | exact Or.inl rfl | exact Or.inr rfl)) (dgs_cons (dg_name (i := 7) (vs := [6, 7]) sc_Term_frame.nd rfl (by first | exact Or.inl rfl | exact Or.inr rfl)) dgs_nil)))) (fun _ _ _ _ _ => (de_call D_pair_times (Bk.blk B) (by decide) rfl (da_cons (de_var (pv 7)) (da_cons (de_meth (pl := _) (tabCons ⟨_, by decide, D_Choose_step⟩ (tabCons ⟨_, by decide, D_Weight_step⟩ (tabCons ⟨_, by decide, D_Power_step⟩ (tabCons ⟨_, by decide, D_Growth_step⟩ tabNil)))) (Bk.blk B) (de_var (pv 5)) (da_cons (de_var (pv 6)) (da_cons (de_var (pv 1)) da_nil)) (fun r os h => congrArg (· + 1) ((ar_cons (ar_cons ar_nil)) r os h))) da_nil)) rfl (hlen := (ar_cons (ar_cons ar_nil)))))) | exact (ds_set (i := 2) false sc_Term_frame.nd rfl (by first | exact Or.inl rfl | exact Or.inr rfl) (de_lc (own := [("i", 6), ("step", 7)]) B sc_Term_frame.nd (di_enum rfl h_enumerate (de_var (pv 2))) (blkOk_by (own := [("i", 6), ("step", 7)]) (N := N_Term_frame) (sc := defScope s_Term_frame) (by decide +kernel)) (fun _ _ _ _ _ => (dg_tup rfl (dgs_cons (dg_name (i := 6) (vs := [6, 7]) sc_Term_frame.nd rfl (by first | exact Or.inl rfl | exact Or.inr rfl)) (dgs_cons (dg_name (i := 7) (vs := [6, 7]) sc_Term_frame.nd rfl (by first | exact Or.inl rfl | exact Or.inr rfl)) dgs_nil)))) (fun _ _ _ _ _ => (de_call D_pair_times (Bk.blk B) (by decide) rfl (da_cons (de_var (pv 7)) (da_cons (de_meth (pl := _) (tabCons ⟨_, by decide, D_Choose_step⟩ (tabCons ⟨_, by decide, D_Weight_step⟩ (tabCons ⟨_, by decide, D_Power_step⟩ (tabCons ⟨_, by decide, D_Growth_step⟩ tabNil)))) (Bk.blk B) (de_var (pv 5)) (da_cons (de_var (pv 6)) (da_cons (de_var (pv 1)) da_nil)) (fun r os h => congrArg (· + 1) ((ar_cons (ar_cons ar_nil)) r os h))) da_nil)) rfl (hlen := (ar_cons (ar_cons ar_nil)))))))) (dss_cons (ds_set (i := 3) false sc_Term_frame.nd rfl (by first | exact Or.inl rfl | exact Or.inr rfl) (de_call D_pair_times B (by decide) rfl (da_cons (de_var (pv 3)) (da_cons (de_meth (pl := _) (tabCons ⟨_, by decide, D_Choose_up⟩ (tabCons ⟨_, by decide, D_Weight_up⟩ (tabCons ⟨_, by decide, D_Power_up⟩ (tabCons ⟨_, by decide, D_Growth_up⟩ tabNil)))) B (de_var (pv 5)) (da_cons (de_var (pv 1)) da_nil) (fun r os h => congrArg (· + 1) ((ar_cons ar_nil) r os h))) da_nil)) rfl (hlen := (ar_cons (ar_cons ar_nil))))) (dss_one (ds_set (i := 4) false sc_Term_frame.nd rfl (by first | exact Or.inl rfl | exact Or.inr rfl) (de_call D_pair_times B (by decide) rfl (da_cons (de_var (pv 4)) (da_cons (de_meth (pl := _) (tabCons ⟨_, by decide, D_Choose_down⟩ (tabCons ⟨_, by decide, D_Weight_down⟩ (tabCons ⟨_, by decide, D_Power_down⟩ (tabCons ⟨_, by decide, D_Growth_down⟩ tabNil)))) B (de_var (pv 5)) (da_cons (de_var (pv 1)) da_nil) (fun r os h => congrArg (· + 1) ((ar_cons ar_nil) r os h))) da_nil)) rfl (hlen := (ar_cons (ar_cons ar_nil))))))))) (dss_one (ds_ret (de_tup (da_cons (de_var (pv 2)) (da_cons (de_var (pv 3)) (da_cons (de_var (pv 4)) da_nil)))))))))))).imp (fun os h => .inr rfl)
theorem ok_breadth_of (F : FnP K "breadth_of" s_breadth_of f fd) (hm : mg "breadth_of" = some (.ref f)) (h_max : mg "max" = none) (D_degree_in_k : Def P w K mg base "degree_in_k" 1 1 M_degree_in_k) (D_Term_frame : DefM P w K mg base "Term" "frame" 5 2 M_Term_frame) : Def P w K mg base "breadth_of" 6 1 M_breadth_of :=
  (Def.ofD (N := N_breadth_of) F sc_breadth_of hm (FunD.bindsN (ps := ["term"]) F fun _ _ _ _ _ _ us hl => match us, hl with | [_], _ => rfl) rfl B_breadth_of (fun cdv A outer s H E Hf B => (dss_cons (ds_asgT (dg_tup rfl (dgs_cons (dg_name (i := 1) (vs := [1, 2, 3]) sc_breadth_of.nd rfl (by first | exact Or.inl rfl | exact Or.inr rfl)) (dgs_cons (dg_name (i := 2) (vs := [1, 2, 3]) sc_breadth_of.nd rfl (by first | exact Or.inl rfl | exact Or.inr rfl)) (dgs_cons (dg_name (i := 3) (vs := [1, 2, 3]) sc_breadth_of.nd rfl (by first | exact Or.inl rfl | exact Or.inr rfl)) dgs_nil)))) (de_meth (pl := _) (tabCons ⟨_, by decide, D_Term_frame⟩ tabNil) B (de_var (pv 0)) (da_cons de_int da_nil) (fun r os h => congrArg (· + 1) ((ar_cons ar_nil) r os h)))) (dss_one (ds_ret (de_B (call_max2 rfl) pc_max2 rfl h_max (by decide +kernel) (da_cons (de_call D_degree_in_k B (by decide) rfl (da_cons (de_var (pv 2)) da_nil) rfl (hlen := (ar_cons ar_nil))) (da_cons (de_call D_degree_in_k B (by decide) rfl (da_cons (de_var (pv 3)) da_nil) rfl (hlen := (ar_cons ar_nil))) da_nil)))))))).imp (fun os h => .inr rfl)
theorem ok_length_of (F : FnP K "length_of" s_length_of f fd) (hm : mg "length_of" = some (.ref f)) (h_max : mg "max" = none) (D_Term_frame : DefM P w K mg base "Term" "frame" 5 2 M_Term_frame) : Def P w K mg base "length_of" 6 2 M_length_of :=
  (Def.ofD (N := N_length_of) F sc_length_of hm (FunD.bindsN (ps := ["term", "far"]) F fun _ _ _ _ _ _ us hl => match us, hl with | [_, _], _ => rfl) rfl B_length_of (fun cdv A outer s H E Hf B => (dss_cons (ds_asgT (dg_tup rfl (dgs_cons (dg_name (i := 2) (vs := [2, 3, 4]) sc_length_of.nd rfl (by first | exact Or.inl rfl | exact Or.inr rfl)) (dgs_cons (dg_name (i := 3) (vs := [2, 3, 4]) sc_length_of.nd rfl (by first | exact Or.inl rfl | exact Or.inr rfl)) (dgs_cons (dg_name (i := 4) (vs := [2, 3, 4]) sc_length_of.nd rfl (by first | exact Or.inl rfl | exact Or.inr rfl)) dgs_nil)))) (de_meth (pl := _) (tabCons ⟨_, by decide, D_Term_frame⟩ tabNil) B (de_var (pv 0)) (da_cons (de_var (pv 1)) da_nil) (fun r os h => congrArg (· + 1) ((ar_cons ar_nil) r os h)))) (dss_cons (ds_set (i := 5) false sc_length_of.nd rfl (by first | exact Or.inl rfl | exact Or.inr rfl) de_int) (dss_cons (ds_for B (di_list (de_addA (de_var (pv 2)) (de_lst (da_cons (de_var (pv 3)) (da_cons (de_var (pv 4)) da_nil))))) (dg_name (i := 6) (vs := [6]) sc_length_of.nd rfl (by first | exact Or.inl rfl | exact Or.inr rfl)) (dss_one (ds_forDK2 (i := 6) (m := 7) (n := 8) B sc_length_of.nd (pv 6) rfl rfl (by first | exact Or.inl rfl | exact Or.inr rfl) (by first | exact Or.inl rfl | exact Or.inr rfl) (by first | exact Or.inl rfl | exact Or.inr rfl) (by first | exact Or.inl rfl | exact Or.inr rfl) (fun c B => (dss_one (ds_set (i := 5) false sc_length_of.nd rfl (by first | exact Or.inl rfl | exact Or.inr rfl) (de_B (call_max2 rfl) pc_max2 rfl h_max (by decide +kernel) (da_cons (de_var (pv 5)) (da_cons (de_var (pv 7)) da_nil))))))))) (dss_one (ds_ret (de_var (pv 5))))))))).imp (fun os h => .inr rfl)
theorem ok_height_of (F : FnP K "height_of" s_height_of f fd) (hm : mg "height_of" = some (.ref f)) (h_max : mg "max" = none) (D_degree_in_k : Def P w K mg base "degree_in_k" 1 1 M_degree_in_k) (D_Term_frame : DefM P w K mg base "Term" "frame" 5 2 M_Term_frame) : Def P w K mg base "height_of" 6 2 M_height_of :=
  (Def.ofD (N := N_height_of) F sc_height_of hm (FunD.bindsN (ps := ["term", "far"]) F fun _ _ _ _ _ _ us hl => match us, hl with | [_, _], _ => rfl) rfl B_height_of (fun cdv A outer s H E Hf B => (dss_one (ds_ret (de_B (cr_max rfl) pc_maxL rfl h_max (by decide +kernel) (da_cons (de_lc (own := [("step", 2)]) B sc_height_of.nd (di_list (de_ix (de_meth (pl := _) (tabCons ⟨_, by decide, D_Term_frame⟩ tabNil) B (de_var (pv 0)) (da_cons (de_var (pv 1)) da_nil) (fun r os h => congrArg (· + 1) ((ar_cons ar_nil) r os h))) de_int)) (blkOk_by (own := [("step", 2)]) (N := N_height_of) (sc := defScope s_height_of) (by decide +kernel)) (fun _ _ _ _ _ => (dg_name (i := 2) (vs := [2]) sc_height_of.nd rfl (by first | exact Or.inl rfl | exact Or.inr rfl))) (fun _ _ _ _ _ => (de_call D_degree_in_k (Bk.blk B) (by decide) rfl (da_cons (de_var (pv 2)) da_nil) rfl (hlen := (ar_cons ar_nil))))) da_nil)))))).imp (fun os h => .inr rfl)
theorem ok__law_for (F : FnP K "_law_for" s__law_for f fd) (hm : mg "_law_for" = some (.ref f)) (h_max : mg "max" = none) (h_range : mg "range" = none) (D__law_is : Def P w K mg base "_law_is" 1 2 M__law_is) (D_length_of : Def P w K mg base "length_of" 6 2 M_length_of) (D_height_of : Def P w K mg base "height_of" 6 2 M_height_of) (D__law_step : Def P w K mg base "_law_step" 3 4 M__law_step) (D__law_up_and_down : Def P w K mg base "_law_up_and_down" 3 2 M__law_up_and_down) : Def P w K mg base "_law_for" 7 3 M__law_for :=
  (Def.ofD (N := N__law_for) F sc__law_for hm (FunD.bindsN (ps := ["_law_term", "_law_parts_here", "_law_far"]) F fun _ _ _ _ _ _ us hl => match us, hl with | [_, _, _], _ => rfl) rfl B__law_for (fun cdv A outer s H E Hf B => (dss_cons (ds_if (dt_not (dt_val (de_call D__law_is B (by decide) rfl (da_cons (de_call D_height_of B (by decide) rfl (da_cons (de_var (pv 0)) (da_cons (de_var (pv 2)) da_nil)) rfl (hlen := (ar_cons (ar_cons ar_nil)))) (da_cons (de_B (cr_max rfl) pc_maxL rfl h_max (by decide +kernel) (da_cons (de_lc (own := [("_law_i", 4)]) B sc__law_for.nd (di_rng1 rfl h_range (da_cons (de_addA (de_var (pv 2)) de_int) da_nil)) (blkOk_by (own := [("_law_i", 4)]) (N := N__law_for) (sc := defScope s__law_for) (by decide +kernel)) (fun _ _ _ _ _ => (dg_name (i := 4) (vs := [4]) sc__law_for.nd rfl (by first | exact Or.inl rfl | exact Or.inr rfl))) (fun _ _ _ _ _ => (de_call D__law_step (Bk.blk B) (by decide) rfl (da_cons (de_var (pv 1)) (da_cons (de_var (pv 4)) (da_cons (de_var (pv 2)) (da_cons de_int da_nil)))) rfl (hlen := (ar_cons (ar_cons (ar_cons (ar_cons ar_nil)))))))) da_nil)) da_nil)) rfl (hlen := (ar_cons (ar_cons ar_nil)))))) (dss_one (ds_ret de_bl)) dss_nil) (dss_cons (ds_set (i := 3) false sc__law_for.nd rfl (by first | exact Or.inl rfl | exact Or.inr rfl) (de_B (cr_max rfl) pc_maxL rfl h_max (by decide +kernel) (da_cons (de_addA (de_lc (own := [("_law_i", 4)]) B sc__law_for.nd (di_rng1 rfl h_range (da_cons (de_addA (de_var (pv 2)) de_int) da_nil)) (blkOk_by (own := [("_law_i", 4)]) (N := N__law_for) (sc := defScope s__law_for) (by decide +kernel)) (fun _ _ _ _ _ => (dg_name (i := 4) (vs := [4]) sc__law_for.nd rfl (by first | exact Or.inl rfl | exact Or.inr rfl))) (fun _ _ _ _ _ => (de_call D__law_step (Bk.blk B) (by decide) rfl (da_cons (de_var (pv 1)) (da_cons (de_var (pv 4)) (da_cons (de_var (pv 2)) (da_cons de_int da_nil)))) rfl (hlen := (ar_cons (ar_cons (ar_cons (ar_cons ar_nil)))))))) (de_lst (da_cons (de_call D__law_up_and_down B (by decide) rfl (da_cons (de_var (pv 1)) (da_cons de_int da_nil)) rfl (hlen := (ar_cons (ar_cons ar_nil)))) da_nil))) da_nil))) (dss_one (ds_ret (de_call D__law_is B (by decide) rfl (da_cons (de_call D_length_of B (by decide) rfl (da_cons (de_var (pv 0)) (da_cons (de_var (pv 2)) da_nil)) rfl (hlen := (ar_cons (ar_cons ar_nil)))) (da_cons (de_var (pv 3)) da_nil)) rfl (hlen := (ar_cons (ar_cons ar_nil)))))))))).imp (fun os h => .inr rfl)
theorem ok_law (F : FnP K "law" s_law f fd) (h_bool : mg "bool" = none) (h_isinstance : mg "isinstance" = none) (h_list : mg "list" = none) (h_range : mg "range" = none) (D__law_parts : Def P w K mg base "_law_parts" 4 1 M__law_parts) (D_has_ends : Def P w K mg base "has_ends" 3 1 M_has_ends) (D__law_is : Def P w K mg base "_law_is" 1 2 M__law_is) (D__law_cell_at : Def P w K mg base "_law_cell_at" 1 2 M__law_cell_at) (D__law_ends : Def P w K mg base "_law_ends" 3 1 M__law_ends) (D_breadth_of : Def P w K mg base "breadth_of" 6 1 M_breadth_of) (D__law_up_and_down : Def P w K mg base "_law_up_and_down" 3 2 M__law_up_and_down) (D__law_for : Def P w K mg base "_law_for" 7 3 M__law_for) (D_Term_told : DefM P w K mg base "Term" "told" 1 1 M_Term_told) (I_Term : DefI P w K mg base "Term" 4 1 M_Term___init__) : FnOk P w K mg base CX0 8 f fd ["_law_script"] (DL.spLaw K) :=
  law_ok (N := N_law) F sc_law B_law (fun cdv A outer s H E Hf B => (dss_cons (ds_set (i := 1) false sc_law.nd rfl (by first | exact Or.inl rfl | exact Or.inr rfl) (de_call D__law_parts B (by decide) rfl (da_cons (de_var (pv 0)) da_nil) rfl (hlen := (ar_cons ar_nil)))) (dss_cons (ds_set (i := 2) false sc_law.nd rfl (by first | exact Or.inl rfl | exact Or.inr rfl) (de_Ty call_list_of pc_list rfl h_list (by decide +kernel) (da_cons (de_var (pv 1)) da_nil))) (dss_cons (ds_set (i := 3) false sc_law.nd rfl (by first | exact Or.inl rfl | exact Or.inr rfl) (de_make I_Term B (by decide) rfl (da_cons (de_var (pv 2)) da_nil) (hlen := (ar_cons ar_nil)))) (dss_cons (ds_set (i := 4) false sc_law.nd rfl (by first | exact Or.inl rfl | exact Or.inr rfl) (de_call D_has_ends B (by decide) rfl (da_cons (de_var (pv 3)) da_nil) rfl (hlen := (ar_cons ar_nil)))) (dss_cons (ds_if (dt_w (dw_or (dt_not (dt_val (de_isi .bl rfl h_isinstance (pe_bltn rfl h_bool (by decide +kernel) rfl) (de_var (pv 4))))) (dw_or1 (dt_ne B (de_var (pv 4)) (de_call D__law_ends B (by decide) rfl (da_cons (de_var (pv 1)) da_nil) rfl (hlen := (ar_cons ar_nil))))))) (dss_one (ds_ret de_bl)) dss_nil) (dss_cons (ds_if (dt_not (dt_val (de_call D__law_is B (by decide) rfl (da_cons (de_call D_breadth_of B (by decide) rfl (da_cons (de_var (pv 3)) da_nil) rfl (hlen := (ar_cons ar_nil))) (da_cons (de_call D__law_up_and_down B (by decide) rfl (da_cons (de_var (pv 1)) (da_cons de_int da_nil)) rfl (hlen := (ar_cons (ar_cons ar_nil)))) da_nil)) rfl (hlen := (ar_cons (ar_cons ar_nil)))))) (dss_one (ds_ret de_bl)) dss_nil) (dss_cons (ds_set (i := 5) false sc_law.nd rfl (by first | exact Or.inl rfl | exact Or.inr rfl) (de_mod (de_call D__law_cell_at B (by decide) rfl (da_cons (de_var (pv 0)) (da_cons de_int da_nil)) rfl (hlen := (ar_cons (ar_cons ar_nil)))) de_int)) (dss_cons (ds_for B (di_rng1 rfl h_range (da_cons de_int da_nil)) (dg_name (i := 6) (vs := [6]) sc_law.nd rfl (by first | exact Or.inl rfl | exact Or.inr rfl)) (dss_one (ds_if (dt_not (dt_val (de_call D__law_for B (by decide) rfl (da_cons (de_var (pv 3)) (da_cons (de_var (pv 1)) (da_cons (de_mod (de_addA (de_var (pv 5)) (de_var (pv 6))) de_int) da_nil))) rfl (hlen := (ar_cons (ar_cons (ar_cons ar_nil))))))) (dss_one (ds_ret de_bl)) dss_nil))) (dss_one (ds_ret (de_and (de_eq B (de_var (pv 2)) (de_var (pv 1))) (de_and (de_eq B (de_meth0 (pl := _) (tabCons ⟨_, by decide, D_Term_told⟩ tabNil) B (de_var (pv 3))) (de_var (pv 1))) (de_one (de_eq B (de_call D_has_ends B (by decide) rfl (da_cons (de_var (pv 3)) da_nil) rfl (hlen := (ar_cons ar_nil))) (de_var (pv 4))))))))))))))))) hlaw
theorem facts {P : Program} {w : World} {K : PySem.W.Frag} {h : Heap} {mg : Str → Option Value} {f : Addr} (X : K.In h) (G : h.Ns mainGlobals mg) (hfa : mg ("law" : Str) = some (.ref f)) (c : He.SaysD fa fn K) (cx : ex K = true) :
    ∃ fd : FuncData, (∀ (s : Shared) (v : Value), BindsTo s fd ⟨[v], []⟩ [("_law_script", v)]) ∧ ∀ base : Heap, K.In base → base.Ns mainGlobals mg → FnOk P w K mg base CX0 8 f fd ["_law_script"] (DL.spLaw K) := by
  obtain ⟨fd__law_is, F__law_is⟩ := c.def_ 0 (d := d__law_is) rfl
  obtain ⟨fd__law_cell_at, F__law_cell_at⟩ := c.def_ 1 (d := d__law_cell_at) rfl
  obtain ⟨fd_within, F_within⟩ := c.def_ 2 (d := d_within) rfl
  obtain ⟨fd__law_less, F__law_less⟩ := c.def_ 3 (d := d__law_less) rfl
  obtain ⟨fd_degree_in_k, F_degree_in_k⟩ := c.def_ 4 (d := d_degree_in_k) rfl
  obtain ⟨fd_raised, F_raised⟩ := c.def_ 5 (d := d_raised) rfl
  obtain ⟨fd_without_noughts, F_without_noughts⟩ := c.def_ 6 (d := d_without_noughts) rfl
  obtain ⟨fd__law_fraction, F__law_fraction⟩ := c.def_ 7 (d := d__law_fraction) rfl
  obtain ⟨fd_is_choose, F_is_choose⟩ := c.def_ 8 (d := d_is_choose) rfl
  obtain ⟨fd__law_lows, F__law_lows⟩ := c.def_ 9 (d := d__law_lows) rfl
  obtain ⟨fd_pair_times, F_pair_times⟩ := c.def_ 10 (d := d_pair_times) rfl
  obtain ⟨fd_pair_of_form, F_pair_of_form⟩ := c.def_ 11 (d := d_pair_of_form) rfl
  obtain ⟨fd_low_forms, F_low_forms⟩ := c.def_ 12 (d := d_low_forms) rfl
  obtain ⟨fd__law_any, F__law_any⟩ := c.def_ 13 (d := d__law_any) rfl
  obtain ⟨fd_has_ends, F_has_ends⟩ := c.def_ 14 (d := d_has_ends) rfl
  obtain ⟨fd__law_ends, F__law_ends⟩ := c.def_ 15 (d := d__law_ends) rfl
  obtain ⟨fd__law_up_and_down, F__law_up_and_down⟩ := c.def_ 16 (d := d__law_up_and_down) rfl
  obtain ⟨fd_made_part, F_made_part⟩ := c.def_ 17 (d := d_made_part) rfl
  obtain ⟨fd__law_step, F__law_step⟩ := c.def_ 18 (d := d__law_step) rfl
  obtain ⟨fd_rising, F_rising⟩ := c.def_ 19 (d := d_rising) rfl
  obtain ⟨fd__law_choose, F__law_choose⟩ := c.def_ 20 (d := d__law_choose) rfl
  obtain ⟨fd__law_parts, F__law_parts⟩ := c.def_ 21 (d := d__law_parts) rfl
  obtain ⟨fd_breadth_of, F_breadth_of⟩ := c.def_ 22 (d := d_breadth_of) rfl
  obtain ⟨fd_length_of, F_length_of⟩ := c.def_ 23 (d := d_length_of) rfl
  obtain ⟨fd_height_of, F_height_of⟩ := c.def_ 24 (d := d_height_of) rfl
  obtain ⟨fd__law_for, F__law_for⟩ := c.def_ 25 (d := d__law_for) rfl
  obtain ⟨fd_law, F_law⟩ := c.def_ 26 (d := d_law) rfl
  obtain ⟨fd_Term_told, F_Term_told⟩ := c.def_ 27 (d := d_Term_told) rfl
  obtain ⟨fd_Term_frame, F_Term_frame⟩ := c.def_ 28 (d := d_Term_frame) rfl
  obtain ⟨fd_Choose_up, F_Choose_up⟩ := c.def_ 29 (d := d_Choose_up) rfl
  obtain ⟨fd_Weight_up, F_Weight_up⟩ := c.def_ 30 (d := d_Weight_up) rfl
  obtain ⟨fd_Power_up, F_Power_up⟩ := c.def_ 31 (d := d_Power_up) rfl
  obtain ⟨fd_Growth_up, F_Growth_up⟩ := c.def_ 32 (d := d_Growth_up) rfl
  obtain ⟨fd_Choose_down, F_Choose_down⟩ := c.def_ 33 (d := d_Choose_down) rfl
  obtain ⟨fd_Weight_down, F_Weight_down⟩ := c.def_ 34 (d := d_Weight_down) rfl
  obtain ⟨fd_Power_down, F_Power_down⟩ := c.def_ 35 (d := d_Power_down) rfl
  obtain ⟨fd_Growth_down, F_Growth_down⟩ := c.def_ 36 (d := d_Growth_down) rfl
  obtain ⟨fd_Choose_step, F_Choose_step⟩ := c.def_ 37 (d := d_Choose_step) rfl
  obtain ⟨fd_Weight_step, F_Weight_step⟩ := c.def_ 38 (d := d_Weight_step) rfl
  obtain ⟨fd_Power_step, F_Power_step⟩ := c.def_ 39 (d := d_Power_step) rfl
  obtain ⟨fd_Growth_step, F_Growth_step⟩ := c.def_ 40 (d := d_Growth_step) rfl
  obtain ⟨fd_Choose_raised_lows, F_Choose_raised_lows⟩ := c.def_ 41 (d := d_Choose_raised_lows) rfl
  obtain ⟨fd_Term___init__, F_Term___init__⟩ := c.def_ 42 (d := d_Term___init__) rfl
  obtain ⟨fd_Choose___init__, F_Choose___init__⟩ := c.def_ 43 (d := d_Choose___init__) rfl
  obtain ⟨fd_Weight___init__, F_Weight___init__⟩ := c.def_ 44 (d := d_Weight___init__) rfl
  obtain ⟨fd_Power___init__, F_Power___init__⟩ := c.def_ 45 (d := d_Power___init__) rfl
  obtain ⟨fd_Growth___init__, F_Growth___init__⟩ := c.def_ 46 (d := d_Growth___init__) rfl
  have g_Choose : mg "Choose" = some (.ref (He.ga K "Choose")) := He.glo_ok X G (c.fact 27 (f := .glo "Choose") rfl)
  have g_Growth : mg "Growth" = some (.ref (He.ga K "Growth")) := He.glo_ok X G (c.fact 29 (f := .glo "Growth") rfl)
  have g_Power : mg "Power" = some (.ref (He.ga K "Power")) := He.glo_ok X G (c.fact 31 (f := .glo "Power") rfl)
  have g_Term : mg "Term" = some (.ref (He.ga K "Term")) := He.glo_ok X G (c.fact 33 (f := .glo "Term") rfl)
  have g_Weight : mg "Weight" = some (.ref (He.ga K "Weight")) := He.glo_ok X G (c.fact 35 (f := .glo "Weight") rfl)
  have h_abs : mg "abs" = none := He.free_ok X G (c.fact 64 (f := .free "abs") rfl)
  have h_bool : mg "bool" = none := He.free_ok X G (c.fact 65 (f := .free "bool") rfl)
  have h_enumerate : mg "enumerate" = none := He.free_ok X G (c.fact 66 (f := .free "enumerate") rfl)
  have h_int : mg "int" = none := He.free_ok X G (c.fact 67 (f := .free "int") rfl)
  have h_isinstance : mg "isinstance" = none := He.free_ok X G (c.fact 68 (f := .free "isinstance") rfl)
  have h_len : mg "len" = none := He.free_ok X G (c.fact 69 (f := .free "len") rfl)
  have h_list : mg "list" = none := He.free_ok X G (c.fact 70 (f := .free "list") rfl)
  have h_max : mg "max" = none := He.free_ok X G (c.fact 71 (f := .free "max") rfl)
  have h_min : mg "min" = none := He.free_ok X G (c.fact 72 (f := .free "min") rfl)
  have h_range : mg "range" = none := He.free_ok X G (c.fact 73 (f := .free "range") rfl)
  have c_MOST : ∃ t, mg "MOST" = some (.int 6 t) := He.int_ok X G (c.fact 74 (f := .int "MOST" 6) rfl)
  have g_NoTerm : mg "NoTerm" = some (.ref (He.ga K "NoTerm")) := He.glo_ok X G (c.fact 75 (f := .glo "NoTerm") rfl)
  have rx_NoTerm : DL.Rx K mg "NoTerm" := DL.Rx.of X G (c.fact 75 (f := .glo "NoTerm") rfl) (c.fact 76 (f := .exc "NoTerm") rfl)
  have cl_Choose : Cls K (He.ga K "Choose") := He.cls_ok (c.fact 28 (f := .cls "Choose") rfl)
  have cl_Growth : Cls K (He.ga K "Growth") := He.cls_ok (c.fact 30 (f := .cls "Growth") rfl)
  have cl_Power : Cls K (He.ga K "Power") := He.cls_ok (c.fact 32 (f := .cls "Power") rfl)
  have cl_Term : Cls K (He.ga K "Term") := He.cls_ok (c.fact 34 (f := .cls "Term") rfl)
  have cl_Weight : Cls K (He.ga K "Weight") := He.cls_ok (c.fact 36 (f := .cls "Weight") rfl)
  have na_Choose_high : NoAttr K (He.ga K "Choose") "high" := He.noat_ok (c.fact 37 (f := .noat "Choose" "high") rfl)
  have na_Choose_lows : NoAttr K (He.ga K "Choose") "lows" := He.noat_ok (c.fact 38 (f := .noat "Choose" "lows") rfl)
  have na_Growth_fraction : NoAttr K (He.ga K "Growth") "fraction" := He.noat_ok (c.fact 39 (f := .noat "Growth" "fraction") rfl)
  have na_Power_fraction : NoAttr K (He.ga K "Power") "fraction" := He.noat_ok (c.fact 40 (f := .noat "Power" "fraction") rfl)
  have na_Term_made : NoAttr K (He.ga K "Term") "made" := He.noat_ok (c.fact 41 (f := .noat "Term" "made") rfl)
  have na_Term_words : NoAttr K (He.ga K "Term") "words" := He.noat_ok (c.fact 42 (f := .noat "Term" "words") rfl)
  have na_Weight_form : NoAttr K (He.ga K "Weight") "form" := He.noat_ok (c.fact 43 (f := .noat "Weight" "form") rfl)
  have fl_form : FldF K TF_form "form" := (fldCons cl_Weight na_Weight_form fldNil)
  have fl_fraction : FldF K TF_fraction "fraction" := (fldCons cl_Power na_Power_fraction (fldCons cl_Growth na_Growth_fraction fldNil))
  have fl_high : FldF K TF_high "high" := (fldCons cl_Choose na_Choose_high fldNil)
  have fl_lows : FldF K TF_lows "lows" := (fldCons cl_Choose na_Choose_lows fldNil)
  have fl_made : FldF K TF_made "made" := (fldCons cl_Term na_Term_made fldNil)
  have fl_words : FldF K TF_words "words" := (fldCons cl_Term na_Term_words fldNil)
  have me_Term_told : Meth K (He.ga K "Term") "told" (He.ma K (He.ga K "Term") "told") := He.meth_ok (c.fact 44 (f := .meth "Term" "told") rfl)
  have me_Term_frame : Meth K (He.ga K "Term") "frame" (He.ma K (He.ga K "Term") "frame") := He.meth_ok (c.fact 45 (f := .meth "Term" "frame") rfl)
  have me_Choose_up : Meth K (He.ga K "Choose") "up" (He.ma K (He.ga K "Choose") "up") := He.meth_ok (c.fact 46 (f := .meth "Choose" "up") rfl)
  have me_Weight_up : Meth K (He.ga K "Weight") "up" (He.ma K (He.ga K "Weight") "up") := He.meth_ok (c.fact 47 (f := .meth "Weight" "up") rfl)
  have me_Power_up : Meth K (He.ga K "Power") "up" (He.ma K (He.ga K "Power") "up") := He.meth_ok (c.fact 48 (f := .meth "Power" "up") rfl)
  have me_Growth_up : Meth K (He.ga K "Growth") "up" (He.ma K (He.ga K "Growth") "up") := He.meth_ok (c.fact 49 (f := .meth "Growth" "up") rfl)
  have me_Choose_down : Meth K (He.ga K "Choose") "down" (He.ma K (He.ga K "Choose") "down") := He.meth_ok (c.fact 50 (f := .meth "Choose" "down") rfl)
  have me_Weight_down : Meth K (He.ga K "Weight") "down" (He.ma K (He.ga K "Weight") "down") := He.meth_ok (c.fact 51 (f := .meth "Weight" "down") rfl)
  have me_Power_down : Meth K (He.ga K "Power") "down" (He.ma K (He.ga K "Power") "down") := He.meth_ok (c.fact 52 (f := .meth "Power" "down") rfl)
  have me_Growth_down : Meth K (He.ga K "Growth") "down" (He.ma K (He.ga K "Growth") "down") := He.meth_ok (c.fact 53 (f := .meth "Growth" "down") rfl)
  have me_Choose_step : Meth K (He.ga K "Choose") "step" (He.ma K (He.ga K "Choose") "step") := He.meth_ok (c.fact 54 (f := .meth "Choose" "step") rfl)
  have me_Weight_step : Meth K (He.ga K "Weight") "step" (He.ma K (He.ga K "Weight") "step") := He.meth_ok (c.fact 55 (f := .meth "Weight" "step") rfl)
  have me_Power_step : Meth K (He.ga K "Power") "step" (He.ma K (He.ga K "Power") "step") := He.meth_ok (c.fact 56 (f := .meth "Power" "step") rfl)
  have me_Growth_step : Meth K (He.ga K "Growth") "step" (He.ma K (He.ga K "Growth") "step") := He.meth_ok (c.fact 57 (f := .meth "Growth" "step") rfl)
  have me_Choose_raised_lows : Meth K (He.ga K "Choose") "raised_lows" (He.ma K (He.ga K "Choose") "raised_lows") := He.meth_ok (c.fact 58 (f := .meth "Choose" "raised_lows") rfl)
  have mk_Term : Mk K (He.ga K "Term") (He.ma K (He.ga K "Term") "__init__") := He.mkr_ok (c.fact 59 (f := .mkr "Term") rfl)
  have mk_Choose : Mk K (He.ga K "Choose") (He.ma K (He.ga K "Choose") "__init__") := He.mkr_ok (c.fact 60 (f := .mkr "Choose") rfl)
  have mk_Weight : Mk K (He.ga K "Weight") (He.ma K (He.ga K "Weight") "__init__") := He.mkr_ok (c.fact 61 (f := .mkr "Weight") rfl)
  have mk_Power : Mk K (He.ga K "Power") (He.ma K (He.ga K "Power") "__init__") := He.mkr_ok (c.fact 62 (f := .mkr "Power") rfl)
  have mk_Growth : Mk K (He.ga K "Growth") (He.ma K (He.ga K "Growth") "__init__") := He.mkr_ok (c.fact 63 (f := .mkr "Growth") rfl)
  have D__law_is : ∀ base : Heap, Def P w K mg base "_law_is" 1 2 M__law_is := fun base => ok__law_is F__law_is (He.glo_ok X G (c.fact 0 (f := .glo "_law_is") rfl)) h_bool h_int h_isinstance
  have D__law_cell_at : ∀ base : Heap, Def P w K mg base "_law_cell_at" 1 2 M__law_cell_at := fun base => ok__law_cell_at F__law_cell_at (He.glo_ok X G (c.fact 1 (f := .glo "_law_cell_at") rfl)) h_len
  have D_Term_told : ∀ base : Heap, DefM P w K mg base "Term" "told" 1 1 M_Term_told := fun base => ok_Term_told F_Term_told cl_Term me_Term_told h_list fl_words
  have I_Choose : ∀ base : Heap, DefI P w K mg base "Choose" 1 2 M_Choose___init__ := fun base => ok_Choose___init__ rfl F_Choose___init__ mk_Choose (He.glo_ok X G (c.fact 27 (f := .glo "Choose") rfl))  fl_high fl_lows
  have I_Weight : ∀ base : Heap, DefI P w K mg base "Weight" 1 1 M_Weight___init__ := fun base => ok_Weight___init__ rfl F_Weight___init__ mk_Weight (He.glo_ok X G (c.fact 35 (f := .glo "Weight") rfl))  fl_form
  have I_Power : ∀ base : Heap, DefI P w K mg base "Power" 1 1 M_Power___init__ := fun base => ok_Power___init__ rfl F_Power___init__ mk_Power (He.glo_ok X G (c.fact 31 (f := .glo "Power") rfl))  fl_fraction
  have I_Growth : ∀ base : Heap, DefI P w K mg base "Growth" 1 1 M_Growth___init__ := fun base => ok_Growth___init__ rfl F_Growth___init__ mk_Growth (He.glo_ok X G (c.fact 29 (f := .glo "Growth") rfl))  fl_fraction
  have D_within : ∀ base : Heap, Def P w K mg base "within" 1 4 M_within := fun base => ok_within F_within (He.glo_ok X G (c.fact 2 (f := .glo "within") rfl)) h_abs h_max h_min
  have D__law_less : ∀ base : Heap, Def P w K mg base "_law_less" 1 2 M__law_less := fun base => ok__law_less F__law_less (He.glo_ok X G (c.fact 3 (f := .glo "_law_less") rfl))
  have D_degree_in_k : ∀ base : Heap, Def P w K mg base "degree_in_k" 1 1 M_degree_in_k := fun base => ok_degree_in_k F_degree_in_k (He.glo_ok X G (c.fact 4 (f := .glo "degree_in_k") rfl)) h_max
  have D_Weight_up : ∀ base : Heap, DefM P w K mg base "Weight" "up" 1 2 M_Part_up := fun base => ok_Part_up F_Weight_up cl_Weight me_Weight_up
  have D_Growth_up : ∀ base : Heap, DefM P w K mg base "Growth" "up" 1 2 M_Part_up := fun base => ok_Part_up F_Growth_up cl_Growth me_Growth_up
  have D_Power_up : ∀ base : Heap, DefM P w K mg base "Power" "up" 1 2 M_Power_up := fun base => ok_Power_up F_Power_up cl_Power me_Power_up  fl_fraction
  have D_Weight_down : ∀ base : Heap, DefM P w K mg base "Weight" "down" 1 2 M_Part_down := fun base => ok_Part_down F_Weight_down cl_Weight me_Weight_down
  have D_Growth_down : ∀ base : Heap, DefM P w K mg base "Growth" "down" 1 2 M_Part_down := fun base => ok_Part_down F_Growth_down cl_Growth me_Growth_down
  have D_Power_down : ∀ base : Heap, DefM P w K mg base "Power" "down" 1 2 M_Power_down := fun base => ok_Power_down F_Power_down cl_Power me_Power_down  fl_fraction
  have D_Power_step : ∀ base : Heap, DefM P w K mg base "Power" "step" 1 3 M_Part_step := fun base => ok_Part_step F_Power_step cl_Power me_Power_step
  have D_raised : ∀ base : Heap, Def P w K mg base "raised" 1 2 M_raised := fun base => ok_raised F_raised (He.glo_ok X G (c.fact 5 (f := .glo "raised") rfl)) h_range
  have D_without_noughts : ∀ base : Heap, Def P w K mg base "without_noughts" 1 1 M_without_noughts := fun base => ok_without_noughts F_without_noughts (He.glo_ok X G (c.fact 6 (f := .glo "without_noughts") rfl))
  have D_Choose_raised_lows : ∀ base : Heap, DefM P w K mg base "Choose" "raised_lows" 1 2 M_Choose_raised_lows := fun base => ok_Choose_raised_lows F_Choose_raised_lows cl_Choose me_Choose_raised_lows h_max fl_lows
  have D__law_fraction : ∀ base : Heap, Def P w K mg base "_law_fraction" 1 1 M__law_fraction := fun base => ok__law_fraction F__law_fraction (He.glo_ok X G (c.fact 7 (f := .glo "_law_fraction") rfl))
  have D_is_choose : ∀ base : Heap, Def P w K mg base "is_choose" 2 2 M_is_choose := fun base => ok_is_choose F_is_choose (He.glo_ok X G (c.fact 8 (f := .glo "is_choose") rfl)) (D_within base)
  have D__law_lows : ∀ base : Heap, Def P w K mg base "_law_lows" 2 1 M__law_lows := fun base => ok__law_lows F__law_lows (He.glo_ok X G (c.fact 9 (f := .glo "_law_lows") rfl)) (D__law_less base)
  have D_pair_times : ∀ base : Heap, Def P w K mg base "pair_times" 2 2 M_pair_times := fun base => ok_pair_times F_pair_times (He.glo_ok X G (c.fact 10 (f := .glo "pair_times") rfl)) (D_without_noughts base)
  have D_Growth_step : ∀ base : Heap, DefM P w K mg base "Growth" "step" 2 3 M_Growth_step := fun base => ok_Growth_step F_Growth_step cl_Growth me_Growth_step (D_raised base) fl_fraction
  have D_pair_of_form : ∀ base : Heap, Def P w K mg base "pair_of_form" 2 1 M_pair_of_form := fun base => ok_pair_of_form F_pair_of_form (He.glo_ok X G (c.fact 11 (f := .glo "pair_of_form") rfl)) (D_without_noughts base)
  have D_low_forms : ∀ base : Heap, Def P w K mg base "low_forms" 2 1 M_low_forms := fun base => ok_low_forms F_low_forms (He.glo_ok X G (c.fact 12 (f := .glo "low_forms") rfl))  (D_Term_told base)
  have D__law_any : ∀ base : Heap, Def P w K mg base "_law_any" 2 2 M__law_any := fun base => ok__law_any F__law_any (He.glo_ok X G (c.fact 13 (f := .glo "_law_any") rfl)) (D__law_less base)
  have D_has_ends : ∀ base : Heap, Def P w K mg base "has_ends" 3 1 M_has_ends := fun base => ok_has_ends F_has_ends (He.glo_ok X G (c.fact 14 (f := .glo "has_ends") rfl)) (D_low_forms base)
  have D__law_ends : ∀ base : Heap, Def P w K mg base "_law_ends" 3 1 M__law_ends := fun base => ok__law_ends F__law_ends (He.glo_ok X G (c.fact 15 (f := .glo "_law_ends") rfl)) h_int (D__law_lows base)
  have D__law_up_and_down : ∀ base : Heap, Def P w K mg base "_law_up_and_down" 3 2 M__law_up_and_down := fun base => ok__law_up_and_down F__law_up_and_down (He.glo_ok X G (c.fact 16 (f := .glo "_law_up_and_down") rfl)) h_max (D__law_lows base)
  have D_made_part : ∀ base : Heap, Def P w K mg base "made_part" 3 1 M_made_part := fun base => ok_made_part F_made_part (He.glo_ok X G (c.fact 17 (f := .glo "made_part") rfl)) rx_NoTerm (D_is_choose base) (I_Choose base) (I_Weight base) (I_Power base) (I_Growth base)
  have D__law_step : ∀ base : Heap, Def P w K mg base "_law_step" 3 4 M__law_step := fun base => ok__law_step F__law_step (He.glo_ok X G (c.fact 18 (f := .glo "_law_step") rfl)) h_int h_max (D__law_lows base)
  have D_Weight_step : ∀ base : Heap, DefM P w K mg base "Weight" "step" 3 3 M_Weight_step := fun base => ok_Weight_step F_Weight_step cl_Weight me_Weight_step (D_pair_of_form base) fl_form
  have D_rising : ∀ base : Heap, Def P w K mg base "rising" 3 3 M_rising := fun base => ok_rising F_rising (He.glo_ok X G (c.fact 19 (f := .glo "rising") rfl)) h_range (D_pair_times base) (D_pair_of_form base)
  have D__law_choose : ∀ base : Heap, Def P w K mg base "_law_choose" 3 2 M__law_choose := fun base => ok__law_choose F__law_choose (He.glo_ok X G (c.fact 20 (f := .glo "_law_choose") rfl)) (D__law_cell_at base) (D__law_any base)
  have D__law_parts : ∀ base : Heap, Def P w K mg base "_law_parts" 4 1 M__law_parts := fun base => ok__law_parts F__law_parts (He.glo_ok X G (c.fact 21 (f := .glo "_law_parts") rfl)) h_len h_range (D__law_cell_at base) (D__law_choose base) (D__law_fraction base)
  have I_Term : ∀ base : Heap, DefI P w K mg base "Term" 4 1 M_Term___init__ := fun base => ok_Term___init__ rfl F_Term___init__ mk_Term (He.glo_ok X G (c.fact 33 (f := .glo "Term") rfl)) h_len h_list rx_NoTerm c_MOST (D_made_part base) fl_made fl_words
  have D_Choose_up : ∀ base : Heap, DefM P w K mg base "Choose" "up" 4 2 M_Choose_up := fun base => ok_Choose_up F_Choose_up cl_Choose me_Choose_up (D_rising base) (D_pair_times base) (D_Choose_raised_lows base) fl_high
  have D_Choose_down : ∀ base : Heap, DefM P w K mg base "Choose" "down" 4 2 M_Choose_down := fun base => ok_Choose_down F_Choose_down cl_Choose me_Choose_down (D_pair_times base) (D_rising base) (D_Choose_raised_lows base)
  have D_Choose_step : ∀ base : Heap, DefM P w K mg base "Choose" "step" 4 3 M_Choose_step := fun base => ok_Choose_step F_Choose_step cl_Choose me_Choose_step h_max (D_rising base) (D_pair_times base) fl_high fl_lows
  have D_Term_frame : ∀ base : Heap, DefM P w K mg base "Term" "frame" 5 2 M_Term_frame := fun base => ok_Term_frame F_Term_frame cl_Term me_Term_frame h_enumerate h_range (D_pair_times base) (D_Choose_up base) (D_Weight_up base) (D_Power_up base) (D_Growth_up base) (D_Choose_down base) (D_Weight_down base) (D_Power_down base) (D_Growth_down base) (D_Choose_step base) (D_Weight_step base) (D_Power_step base) (D_Growth_step base) fl_made
  have D_breadth_of : ∀ base : Heap, Def P w K mg base "breadth_of" 6 1 M_breadth_of := fun base => ok_breadth_of F_breadth_of (He.glo_ok X G (c.fact 22 (f := .glo "breadth_of") rfl)) h_max (D_degree_in_k base) (D_Term_frame base)
  have D_length_of : ∀ base : Heap, Def P w K mg base "length_of" 6 2 M_length_of := fun base => ok_length_of F_length_of (He.glo_ok X G (c.fact 23 (f := .glo "length_of") rfl)) h_max (D_Term_frame base)
  have D_height_of : ∀ base : Heap, Def P w K mg base "height_of" 6 2 M_height_of := fun base => ok_height_of F_height_of (He.glo_ok X G (c.fact 24 (f := .glo "height_of") rfl)) h_max (D_degree_in_k base) (D_Term_frame base)
  have D__law_for : ∀ base : Heap, Def P w K mg base "_law_for" 7 3 M__law_for := fun base => ok__law_for F__law_for (He.glo_ok X G (c.fact 25 (f := .glo "_law_for") rfl)) h_max h_range (D__law_is base) (D_length_of base) (D_height_of base) (D__law_step base) (D__law_up_and_down base)
  have e := hfa.symm.trans (He.glo_ok X G (c.fact 26 (f := .glo "law") rfl))
  cases e
  have b := FunD.bindsA (ps := ["_law_script"]) F_law fun _ _ _ _ _ _ us hl => match us, hl with | [_], _ => rfl
  exact ⟨fd_law, fun s v => b s [v] rfl, fun base _ _ => ok_law F_law h_bool h_isinstance h_list h_range (D__law_parts base) (D_has_ends base) (D__law_is base) (D__law_cell_at base) (D__law_ends base) (D_breadth_of base) (D__law_up_and_down base) (D__law_for base) (D_Term_told base) (I_Term base)⟩
end Row
end
open PySem PySem.W PySem.Calls PyProof.Rows
set_option maxRecDepth 100000 in
set_option maxHeartbeats 0 in
theorem PySem.Challenge.cw_sumcraft_k61_ends_and_sizes_holds : PySem.Challenge.rw_sumcraft_k61_ends_and_sizes.Holds := by
  w_on; o_law
  refine HandSHeadRun.head_any (r := OpenLaw.row PySem.Challenge.rw_sumcraft_k61_ends_and_sizes) (q := view (OpenLaw.row PySem.Challenge.rw_sumcraft_k61_ends_and_sizes).prog [48]) (H := Row.hk) (ob := Row.ob) (M := 6000) (loose := Row.loose) (d := HandSHeadRun.topDef (OpenLaw.row PySem.Challenge.rw_sumcraft_k61_ends_and_sizes).prog 48) (kwd := []) Row.ob_eq
    (by kernel_rfl) (fun s => by kernel_rfl) Row.run (by kernel_rfl) (by kernel_rfl) (by kernel_rfl) (by rfl) (by first | assumption | decide +kernel) (by decide +kernel) ⟨rfl, rfl, rfl, rfl, rfl, by decide +kernel⟩ ?hw ?hc
  case hw => w_witness2
  case hc =>
    refine L2.walk_ofE (l := PySem.Challenge.rw_sumcraft_k61_ends_and_sizes) (n := 63) (k := 8) (x := "_law_script") (CX := L2.CX0) rfl (by decide) (by kernel_rfl) ⟨rfl, by decide, by decide⟩ ?F (fun _ _ _ _ z => z)
    intro w mg fa h Y G hmg0
    obtain ⟨K, KX, c, cx⟩ := Y
    have hmg : mg ("law" : PySem.Str) = some (.ref fa) := by
      have e : (HandSHeadRun.topDef (OpenLaw.row PySem.Challenge.rw_sumcraft_k61_ends_and_sizes).prog 48).name = ("law" : PySem.Str) := by kernel_rfl
      rw [← e]
      exact hmg0
    obtain ⟨fd, hb, hF⟩ := Row.facts (P := (PySem.Challenge.rw_sumcraft_k61_ends_and_sizes).prog) (w := w) KX G hmg c cx
    exact ⟨K, fd, DL.spLaw K, KX, hb, fun H a ns hl _ hS => ⟨a, ns, rfl, hS, hl, DL.tabs0 rfl, fun _ => rfl⟩, hF⟩
