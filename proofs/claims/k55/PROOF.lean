import PyProof.Rows.All
import Wide.All
import OpenK.AllK
import Wide.FinOn
import KE.KStateDown
import Lean
import HandS.ForMost
import HandS.ForExc
import HandS.Wide
import HandS.IsInst
import HandS.Zip
import HandS.Rev
import HandS.More
import HandS.Words
import HandS.WordsExc
import HandS.Defaults
import HandS.ExcIs
import HandS.ExcField
import HandS.Style
import HandS.Head0
import HandS.Head1
import HandS.Head2
import HandS.HeadEnd
import HandS.HeadHook1
import HandS.HeadHook2
import PyProof.Conv_int_bool
import KE.KExcIs
import HandS.ExcInit
import HandS.DictTup
import HandS.Nested
import HandS.NestedK
import HandS.WideBits
import HandS.SortKw
import HandS.Deep
import KE.GoesComp
import HandS.Comp
import HandS.ExcOwn
import HandS.NoneIn
import HandS.TupLen
import KE.KDictCopyH
import HandS.Conv
import HandS.Dict
import HandS.More
import KE.KDictDisplayH
import KE.KDictOf
import KE.KDictWalk
import HandS.Finally
import HandS.DictEq
import KE.KEqNest
import HandS.EndTab
import HandS.EndTab
import PySem.Challenge.RW_sumcraft_k55_whole_frames_hold
set_option Elab.async false
set_option linter.all false
set_option maxRecDepth 100000
set_option maxHeartbeats 4000000
namespace DL
open PySem L2
structure Ec where
  c : Str
  fs : List (Str × Int)
inductive D where
  | non | bl (b : Bool) | int (i : Int) | str (x : Str) | ex (e : Ec)
  | scr (ns : List Int)
  | lst (xs : List D) | tup (xs : List D)
  | obj (c : Str) (ns : List Str) (xs : List D)
  | row (rule : List (List Int)) (first : List (Int × Int))
  | dct (ks : List (List Key)) (xs : List D) | dck (ks : List Key) (xs : List D)
def ExV (cls : Value) (d : Option Addr) (a : Addr) : HO := .ext fun h => ∃ (oe : Obj) (vs : Array Value), h.get? a = some oe ∧ Zc cls d oe ∧ oe.data = .fields vs
def EcR (K : PySem.W.Frag) (e : Ec) (cls : Value) (d : Option Addr) (Hf : Hp) : Prop :=
  ∃ C, cls = .ref C ∧ PySem.W.nsIn K mainGlobals e.c = some (some (.ref C)) ∧
    (match d with | none => e.fs = [] | some a => e.fs ≠ [] ∧ Hf a = some (.xd (e.fs.map fun p => (p.1, V.int p.2))))
def ExAt (K : PySem.W.Frag) (H : Hp) (e : Ec) (a : Addr) : Prop := ∃ cls d, H a = some (ExV cls d a) ∧ EcR K e cls d H
def PolyAt (H : Hp) (p : List Int) (v : V) : Prop := ∃ a, v = .ref a ∧ H a = some (.lst (p.map V.int))
def FrAt (H : Hp) (p : Int × Int) (v : V) : Prop := ∃ a, v = .ref a ∧ H a = some (.tup [.int p.1, .int p.2])
def PolysAt (H : Hp) (ps : List (List Int)) (v : V) : Prop := ∃ a vs, v = .ref a ∧ H a = some (.lst vs) ∧ Paired (PolyAt H) ps vs
def FrsAt (H : Hp) (ps : List (Int × Int)) (v : V) : Prop := ∃ a vs, v = .ref a ∧ H a = some (.lst vs) ∧ Paired (FrAt H) ps vs
def RowAt (K : PySem.W.Frag) (H : Hp) (rule : List (List Int)) (first : List (Int × Int)) (a : Addr) : Prop :=
  ∃ (dx : Addr) (r f : V) (k : Addr), H a = some (.ins (He.ga K "Row") dx [("rule", r), ("first", f), ("known", .ref k)]) ∧ H dx = some (.own a) ∧ PolysAt H rule r ∧ FrsAt H first f
mutual
def Rep (K : PySem.W.Frag) (H : Hp) : D → V → Prop
  | .non, v => v = .non
  | .bl b, v => v = .bl b
  | .int i, v => v = .int i
  | .str x, v => v = .str x
  | .ex e, v => ∃ a, v = .ref a ∧ ExAt K H e a
  | .scr ns, v => ∃ a, v = .ref a ∧ SqL K H a (ns.map V.int)
  | .lst ds, v => ∃ a vs, v = .ref a ∧ H a = some (.lst vs) ∧ Reps K H ds vs
  | .tup ds, v => ∃ a vs, v = .ref a ∧ H a = some (.tup vs) ∧ Reps K H ds vs
  | .obj c ns ds, v => ∃ a dx vs, v = .ref a ∧ H a = some (.ins (He.ga K c) dx (ns.zip vs)) ∧ H dx = some (.own a) ∧ ns.length = ds.length ∧ Reps K H ds vs
  | .row rule first, v => ∃ a, v = .ref a ∧ RowAt K H rule first a
  | .dct ks ds, v => ∃ a vs, v = .ref a ∧ Rd H a (.dT (ks.zip vs)) ∧ ks.length = ds.length ∧ Reps K H ds vs
  | .dck ks ds, v => ∃ a vs, v = .ref a ∧ H a = some (.dK (ks.zip vs)) ∧ ks.length = ds.length ∧ Reps K H ds vs
def Reps (K : PySem.W.Frag) (H : Hp) : List D → List V → Prop
  | [], vs => vs = []
  | d :: ds, vs => ∃ v r, vs = v :: r ∧ Rep K H d v ∧ Reps K H ds r
end
def rowNs : List Str := ["rule", "first", "known"]
inductive O where | fz (d : D) | ls (os : List O) | tp (os : List O)
  | ob (c : Str) (ns : List Str) (os : List O) | dt (ks : List (List Key)) (ds : List D) | dk (ks : List Key) (ds : List D)
  | gh (o : O) (a : Addr) (m : O)
mutual
def RepO (K : PySem.W.Frag) (Hf H : Hp) : O → V → List Addr → Prop
  | .fz d, v, L => Rep K Hf d v ∧ L = []
  | .ls os, v, L => ∃ a vs M, v = .ref a ∧ H a = some (.lst vs) ∧ RepOs K Hf H os vs M ∧ L = a :: M
  | .tp os, v, L => ∃ a vs M, v = .ref a ∧ H a = some (.tup vs) ∧ RepOs K Hf H os vs M ∧ L = a :: M
  | .ob c ns os, v, L => ∃ a dx vs M, v = .ref a ∧ H a = some (.ins (He.ga K c) dx (ns.zip vs)) ∧ H dx = some (.own a) ∧ ns.length = os.length ∧ RepOs K Hf H os vs M ∧ ns ≠ rowNs ∧ L = a :: dx :: M
  | .dt ks ds, v, L => ∃ a vs, v = .ref a ∧ H a = some (.dT (ks.zip vs)) ∧ ks.length = ds.length ∧ Reps K Hf ds vs ∧ L = [a]
  | .dk ks ds, v, L => ∃ a vs, v = .ref a ∧ H a = some (.dK (ks.zip vs)) ∧ ks.length = ds.length ∧ Reps K Hf ds vs ∧ L = [a]
  | .gh o a m, v, L => ∃ L1 L2, RepO K Hf H o v L1 ∧ RepO K Hf H m (.ref a) L2 ∧ L = L1 ++ L2
def RepOs (K : PySem.W.Frag) (Hf H : Hp) : List O → List V → List Addr → Prop
  | [], vs, L => vs = [] ∧ L = []
  | o :: os, vs, L => ∃ v r L1 L2, vs = v :: r ∧ L = L1 ++ L2 ∧ RepO K Hf H o v L1 ∧ RepOs K Hf H os r L2
end
mutual
def RepV (K : PySem.W.Frag) (Hf H : Hp) : O → V → Prop
  | .fz d, v => Rep K Hf d v
  | .ls os, v => ∃ a vs, v = .ref a ∧ H a = some (.lst vs) ∧ RepVs K Hf H os vs
  | .tp os, v => ∃ a vs, v = .ref a ∧ H a = some (.tup vs) ∧ RepVs K Hf H os vs
  | .ob c ns os, v => ∃ a dx vs, v = .ref a ∧ H a = some (.ins (He.ga K c) dx (ns.zip vs)) ∧ H dx = some (.own a) ∧ ns.length = os.length ∧ RepVs K Hf H os vs ∧ ns ≠ rowNs
  | .dt ks ds, v => ∃ a vs, v = .ref a ∧ Rd H a (.dT (ks.zip vs)) ∧ ks.length = ds.length ∧ Reps K Hf ds vs
  | .dk ks ds, v => ∃ a vs, v = .ref a ∧ H a = some (.dK (ks.zip vs)) ∧ ks.length = ds.length ∧ Reps K Hf ds vs
  | .gh o _ _, v => RepV K Hf H o v
def RepVs (K : PySem.W.Frag) (Hf H : Hp) : List O → List V → Prop
  | [], vs => vs = []
  | o :: os, vs => ∃ v r, vs = v :: r ∧ RepV K Hf H o v ∧ RepVs K Hf H os r
end
mutual
def er : O → D
  | .fz d => d
  | .ls os => .lst (ers os)
  | .tp os => .tup (ers os)
  | .ob c ns os => .obj c ns (ers os)
  | .dt ks ds => .dct ks ds
  | .dk ks ds => .dck ks ds
  | .gh o _ _ => er o
def ers : List O → List D
  | [] => []
  | o :: os => er o :: ers os
end
theorem ers_eq : ∀ os : List O, ers os = os.map er
  | [] => rfl
  | o :: os => by show er o :: ers os = _; rw [ers_eq os]; rfl
def Kn (k : Addr) (vs : List V) : HO := .ext fun h => vs.length ≤ sizeLine ∧ ∃ (its : List Value) (n : Nat), Vals vs its ∧ h.get? k = some { cls := .type "list", data := .seq its.toArray n }
inductive Hk where | e (φ : Heap → Prop) | t (ps : Array Value)
def Hk.o : Hk → HO
  | .e φ => .ext φ
  | .t ps => .tbl ps
def isPl : HO → Bool
  | .ext _ => false
  | .tbl _ => false
  | _ => true
theorem Hk.ne {o : HO} (h : isPl o = true) (φ : Hk) : o ≠ φ.o := fun z => by subst z; cases φ <;> cases h
def isKn (o : HO) : Prop := (∃ k vs, o = Kn k vs) ∨ ∃ ps, o = .tbl ps
def Sm (H H' : Hp) : Prop := ∀ a o, H a = some o → H' a = some o ∨ (isKn o ∧ ∃ o', H' a = some o' ∧ isKn o')
theorem isKn_ext {o : HO} (h : isKn o) : ∃ φ : Hk, o = φ.o := h.elim (fun ⟨_, _, e⟩ => ⟨.e _, e⟩) fun ⟨ps, e⟩ => ⟨.t ps, e⟩
section
variable {H H' H1 : Hp} {a : Addr}
theorem Same.sm (e : Same H H') : Sm H H' := fun a o h => .inl (e a o h)
theorem Sm.refl (H : Hp) : Sm H H := fun _ _ h => .inl h
theorem Sm.trans (x : Sm H H1) (y : Sm H1 H') : Sm H H' := fun a o h => by
  rcases x a o h with h1 | ⟨k, o1, h1, k1⟩
  · exact y a o h1
  · rcases y a o1 h1 with h2 | ⟨_, o2, h2, k2⟩
    · exact .inr ⟨k, o1, h2, k1⟩
    · exact .inr ⟨k, o2, h2, k2⟩
theorem Sm.free (e : Sm H H') (h : H' a = none) : H a = none := by
  cases q : H a with
  | none => rfl
  | some o =>
    rcases e a o q with h1 | ⟨_, o1, h1, _⟩
    · rw [h] at h1; cases h1
    · rw [h] at h1; cases h1
theorem Sm.at {o : HO} (e : Sm H H') (h : H a = some o) (n : ∀ φ : Hk, o ≠ φ.o) : H' a = some o := by
  rcases e a o h with h1 | ⟨k, _⟩
  · exact h1
  · obtain ⟨φ, z⟩ := isKn_ext k
    exact absurd z (n φ)
theorem Sm.lst {xs : List V} (e : Sm H H') (h : H a = some (.lst xs)) : H' a = some (.lst xs) := e.at h (Hk.ne rfl)
theorem Sm.tup {xs : List V} (e : Sm H H') (h : H a = some (.tup xs)) : H' a = some (.tup xs) := e.at h (Hk.ne rfl)
theorem Sm.ins {C dx : Addr} {fs : List (Str × V)} (e : Sm H H') (h : H a = some (.ins C dx fs)) : H' a = some (.ins C dx fs) := e.at h (Hk.ne rfl)
theorem Sm.own {x : Addr} (e : Sm H H') (h : H a = some (.own x)) : H' a = some (.own x) := e.at h (Hk.ne rfl)
theorem Sm.dT {kvs : List (List Key × V)} (e : Sm H H') (h : H a = some (.dT kvs)) : H' a = some (.dT kvs) := e.at h (Hk.ne rfl)
theorem Sm.dK {kvs : List (Key × V)} (e : Sm H H') (h : H a = some (.dK kvs)) : H' a = some (.dK kvs) := e.at h (Hk.ne rfl)
theorem Sm.ne_none (e : Sm H H') (h : H a ≠ none) : H' a ≠ none := fun z => h (e.free z)
end
section
variable {K : PySem.W.Frag} {H H' Hf Hf' : Hp}
theorem EcR.mono {e : Ec} {cls : Value} {d : Option Addr} (z : Same H H') (h : EcR K e cls d H) : EcR K e cls d H' := by
  obtain ⟨C, h1, h2, h3⟩ := h
  refine ⟨C, h1, h2, ?_⟩
  cases d with
  | none => exact h3
  | some a => exact ⟨h3.1, z _ _ h3.2⟩
theorem ExAt.mono {e : Ec} {a : Addr} (z : Same H H') (h : ExAt K H e a) : ExAt K H' e a := by
  obtain ⟨cls, d, h1, h2⟩ := h
  exact ⟨cls, d, z _ _ h1, h2.mono z⟩
theorem pairedM {α β : Type} {F G : α → β → Prop} {l₁ : List α} {l₂ : List β} (h : Paired F l₁ l₂) (f : ∀ a b, F a b → G a b) : Paired G l₁ l₂ := Paired.mapP h f
theorem PolyAt.mono (e : Same H H') {p : List Int} {v : V} (h : PolyAt H p v) : PolyAt H' p v := let ⟨a, e1, h1⟩ := h; ⟨a, e1, e _ _ h1⟩
theorem FrAt.mono (e : Same H H') {p : Int × Int} {v : V} (h : FrAt H p v) : FrAt H' p v := let ⟨a, e1, h1⟩ := h; ⟨a, e1, e _ _ h1⟩
theorem PolysAt.mono (e : Same H H') {p : List (List Int)} {v : V} (h : PolysAt H p v) : PolysAt H' p v := let ⟨a, vs, e1, h1, h2⟩ := h; ⟨a, vs, e1, e _ _ h1, pairedM h2 fun _ _ z => z.mono e⟩
theorem FrsAt.mono (e : Same H H') {p : List (Int × Int)} {v : V} (h : FrsAt H p v) : FrsAt H' p v := let ⟨a, vs, e1, h1, h2⟩ := h; ⟨a, vs, e1, e _ _ h1, pairedM h2 fun _ _ z => z.mono e⟩
theorem RowAt.mono (e : Same H H') {rule : List (List Int)} {first : List (Int × Int)} {a : Addr} (h : RowAt K H rule first a) : RowAt K H' rule first a :=
  let ⟨dx, r, f, k, h1, h2, h3, h4⟩ := h; ⟨dx, r, f, k, e _ _ h1, e _ _ h2, h3.mono e, h4.mono e⟩
def ratP (t b : Int) : Int × Int := let g : Int := (Int.gcd t b : Nat); if b < 0 then (t.fdiv (-g), b.fdiv (-g)) else (t.fdiv g, b.fdiv g)
def evP (p : List Int) (n : Int) : Int := p.foldr (fun x a => a * n + x) 0
def wgP : List Int → List (Int × Int) → Int × Int → Int × Int
  | w :: ws, f :: fs, (t, b) => wgP ws fs (t * f.2 + w * f.1 * b, b * f.2)
  | _, _, a => a
def nextP (rule : List (List Int)) (known : List (Int × Int)) : Int × Int :=
  let n : Int := (known.length : Int) - ((rule.length : Int) - 1)
  let ws := rule.map fun p => evP p n
  let a := wgP ws.dropLast (known.drop n.toNat) (0, 1)
  ratP (-a.1) (a.2 * ws.getLastD 0)
def growP (rule : List (List Int)) (first : List (Int × Int)) : Nat → List (Int × Int)
  | 0 => first
  | m + 1 => growP rule first m ++ [nextP rule (growP rule first m)]
def nestNames : List Str := []
def tabP (K : PySem.W.Frag) (x : Str) : Addr := match K.lookup (He.ga K x) with
  | some ⟨_, _, .func fd, _⟩ => (match fd.code with
    | .ref c => (match K.lookup c with
      | some ⟨_, _, .fields vs, _⟩ => (match (vs[11]? : Option Value) with
        | some (.ref P) => P
        | _ => 0)
      | _ => 0)
    | _ => 0)
  | _ => 0
def nestAt (_l _c : Nat) : Str := ""
def tK (K : PySem.W.Frag) : List Addr := nestNames.map (tabP K)
def TabsA (T : List Addr) (H : Hp) : Prop := ∀ P ∈ T, NdefX.TabN H P nestAt
structure Rows (T : List Addr) (Hf H : Hp) : Prop where
  tabs : TabsA T H
  nk : ∀ a o, Hf a = some o → ¬ isKn o
  at_ : ∀ (a C dx k : Addr) (r f : V), Hf a = some (.ins C dx [("rule", r), ("first", f), ("known", .ref k)]) → ∃ (rule : List (List Int)) (first : List (Int × Int)) (m : Nat) (vs : List V),
    PolysAt Hf rule r ∧ FrsAt Hf first f ∧ H k = some (Kn k vs) ∧ Paired (FrAt Hf) (growP rule first m) vs ∧
      ∀ (a' C' dx' : Addr) (r' f' : V), Hf a' = some (.ins C' dx' [("rule", r'), ("first", f'), ("known", .ref k)]) → a' = a
def NR (H : Hp) (L : List Addr) : Prop := ∀ a ∈ L, ∀ C dx fs, H a = some (.ins C dx fs) → fs.map (·.1) ≠ rowNs
theorem Rows.ro {T : List Addr} {Hf Hf' H H' : Hp} (r : Rows T Hf H) (f : Same Hf Hf') (nk : ∀ a o, Hf' a = some o → Hf a = none → ¬ isKn o) (nr : ∀ a C dx fs, Hf' a = some (.ins C dx fs) → Hf a = none → fs.map (·.1) ≠ rowNs)
    (e : ∀ (k : Addr) (φ : Hk), H k = some φ.o → H' k = some φ.o) : Rows T Hf' H' where
  tabs := fun p hp => let ⟨ps, a1, a2, a3⟩ := r.tabs p hp; ⟨ps, e _ (.t ps) a1, a2, fun pos cv hc => let ⟨c, e1, e2⟩ := a3 pos cv hc; ⟨c, e1, e _ (.e _) e2⟩⟩
  nk := fun a o h => by
    cases q : Hf a with
    | none => exact nk a o h q
    | some u => rw [f a u q] at h; cases h; exact r.nk a _ q
  at_ := fun a C dx k v w h => by
    have old : ∀ a' C' dx' r' f', Hf' a' = some (.ins C' dx' [("rule", r'), ("first", f'), ("known", .ref k)]) → Hf a' = some (.ins C' dx' [("rule", r'), ("first", f'), ("known", .ref k)]) := fun a' C' dx' r' f' h' => by
      cases q : Hf a' with
      | none => exact absurd rfl (nr a' _ _ _ h' q)
      | some u => rw [f a' u q] at h'; exact h'
    obtain ⟨rule, first, m, vs, h1, h2, h3, h4, h5⟩ := r.at_ a C dx k v w (old _ _ _ _ _ h)
    exact ⟨rule, first, m, vs, h1.mono f, h2.mono f, e _ (.e _) h3, pairedM h4 fun _ _ z => z.mono f, fun a' C' dx' r' f' h' => h5 a' C' dx' r' f' (old _ _ _ _ _ h')⟩
theorem Rows.up {T : List Addr} {Hf H H' : Hp} (r : Rows T Hf H) (e : ∀ (k : Addr) (φ : Hk), H k = some φ.o → H' k = some φ.o) : Rows T Hf H' := r.ro (Same.refl _) (fun a o h q => by rw [q] at h; cases h) (fun a C dx fs h q => by rw [q] at h; cases h) e
theorem Rows.new {T : List Addr} {Hf H : Hp} {p : Addr} {o : HO} (r : Rows T Hf H) (hp : H p = none) : Rows T Hf (upd H p o) := r.up fun k vs h => by rw [upd_ne (ne_of_none h hp)]; exact h
theorem Rows.set {T : List Addr} {Hf H : Hp} {p : Addr} {o o' : HO} (r : Rows T Hf H) (h : H p = some o) (n : ∀ φ : Hk, o ≠ φ.o) : Rows T Hf (upd H p o') := r.up fun k vs z => by
  rw [upd_ne (fun e => by subst e; rw [h] at z; exact n _ (Option.some.inj z))]; exact z
theorem Rows.fz {T : List Addr} {Hf H : Hp} {p : Addr} {o : HO} (r : Rows T Hf H) (hp : H p = none) (n1 : ¬ isKn o) (n2 : ∀ C dx fs, o = .ins C dx fs → fs.map (·.1) ≠ rowNs) (hf : Hf p = none) : Rows T (upd Hf p o) (upd H p o) := by
  refine r.ro (fun a u e => by rw [upd_ne (ne_of_none e hf)]; exact e) (fun a u h q => ?_) (fun a C dx fs h q => ?_) fun k vs h => by rw [upd_ne (ne_of_none h hp)]; exact h
  · by_cases ha : a = p
    · subst ha; rw [upd_same] at h; cases h; exact n1
    · rw [upd_ne ha, q] at h; cases h
  · by_cases ha : a = p
    · subst ha; rw [upd_same] at h; exact n2 C dx fs (Option.some.inj h)
    · rw [upd_ne ha, q] at h; cases h
mutual
theorem Rep.mono (e : Same H H') : ∀ (d : D) (v : V), Rep K H d v → Rep K H' d v
  | .non, _, h => h
  | .bl _, _, h => h
  | .int _, _, h => h
  | .str _, _, h => h
  | .ex _, _, h => by
    obtain ⟨a, e1, h1⟩ := h
    exact ⟨a, e1, h1.mono e⟩
  | .scr ns, _, h => by
    obtain ⟨a, e1, h1⟩ := h
    exact ⟨a, e1, e.seq h1⟩
  | .lst ds, _, h => by
    obtain ⟨a, vs, e1, h1, h2⟩ := h
    exact ⟨a, vs, e1, e _ _ h1, Reps.mono e ds vs h2⟩
  | .tup ds, _, h => by
    obtain ⟨a, vs, e1, h1, h2⟩ := h
    exact ⟨a, vs, e1, e _ _ h1, Reps.mono e ds vs h2⟩
  | .obj c ns ds, _, h => by
    obtain ⟨a, dx, vs, e1, h1, h3, h4, h2⟩ := h
    exact ⟨a, dx, vs, e1, e _ _ h1, e _ _ h3, h4, Reps.mono e ds vs h2⟩
  | .row r f, _, h => by
    obtain ⟨a, e1, h1⟩ := h
    exact ⟨a, e1, h1.mono e⟩
  | .dct ks ds, _, h => by
    obtain ⟨a, vs, e1, h1, h3, h2⟩ := h
    exact ⟨a, vs, e1, h1.imp (fun h => e _ _ h) (fun ⟨o, h⟩ => ⟨o, e _ _ h⟩), h3, Reps.mono e ds vs h2⟩
  | .dck ks ds, _, h => by
    obtain ⟨a, vs, e1, h1, h3, h2⟩ := h
    exact ⟨a, vs, e1, e _ _ h1, h3, Reps.mono e ds vs h2⟩
theorem Reps.mono (e : Same H H') : ∀ (ds : List D) (vs : List V), Reps K H ds vs → Reps K H' ds vs
  | [], _, h => h
  | d :: ds, _, h => by
    obtain ⟨v, r, e1, h1, h2⟩ := h
    exact ⟨v, r, e1, Rep.mono e d v h1, Reps.mono e ds r h2⟩
end
mutual
theorem RepO.mono (f : Same Hf Hf') : ∀ (o : O) (v : V) (L : List Addr), (∀ a ∈ L, ∀ u, H a = some u → H' a = some u) → RepO K Hf H o v L → RepO K Hf' H' o v L
  | .fz d, _, _, _, h => ⟨Rep.mono f d _ h.1, h.2⟩
  | .ls os, _, L, e, h => by
    obtain ⟨a, vs, M, e1, h1, h2, e2⟩ := h
    subst e2
    exact ⟨a, vs, M, e1, e a List.mem_cons_self _ h1, RepOs.mono f os vs M (fun b hb => e b (List.mem_cons_of_mem _ hb)) h2, rfl⟩
  | .tp os, _, L, e, h => by
    obtain ⟨a, vs, M, e1, h1, h2, e2⟩ := h
    subst e2
    exact ⟨a, vs, M, e1, e a List.mem_cons_self _ h1, RepOs.mono f os vs M (fun b hb => e b (List.mem_cons_of_mem _ hb)) h2, rfl⟩
  | .ob c ns os, _, L, e, h => by
    obtain ⟨a, dx, vs, M, e1, h1, h3, h4, h2, hn, e2⟩ := h
    subst e2
    exact ⟨a, dx, vs, M, e1, e a List.mem_cons_self _ h1, e dx (by simp) _ h3, h4, RepOs.mono f os vs M (fun b hb => e b (by simp [hb])) h2, hn, rfl⟩
  | .dt ks ds, _, L, e, h => by
    obtain ⟨a, vs, e1, h1, h3, h2, e2⟩ := h
    subst e2
    exact ⟨a, vs, e1, e a List.mem_cons_self _ h1, h3, Reps.mono f ds vs h2, rfl⟩
  | .dk ks ds, _, L, e, h => by
    obtain ⟨a, vs, e1, h1, h3, h2, e2⟩ := h
    subst e2
    exact ⟨a, vs, e1, e a List.mem_cons_self _ h1, h3, Reps.mono f ds vs h2, rfl⟩
  | .gh o a m, _, L, e, h => by
    obtain ⟨L1, L2, h1, h2, e2⟩ := h
    subst e2
    exact ⟨L1, L2, RepO.mono f o _ L1 (fun b hb => e b (List.mem_append_left _ hb)) h1, RepO.mono f m _ L2 (fun b hb => e b (List.mem_append_right _ hb)) h2, rfl⟩
theorem RepOs.mono (f : Same Hf Hf') : ∀ (os : List O) (vs : List V) (L : List Addr), (∀ a ∈ L, ∀ u, H a = some u → H' a = some u) → RepOs K Hf H os vs L → RepOs K Hf' H' os vs L
  | [], _, _, _, h => h
  | o :: os, _, L, e, h => by
    obtain ⟨v, r, L1, L2, e1, e2, h1, h2⟩ := h
    subst e2
    exact ⟨v, r, L1, L2, e1, rfl, RepO.mono f o v L1 (fun b hb => e b (List.mem_append_left _ hb)) h1, RepOs.mono f os r L2 (fun b hb => e b (List.mem_append_right _ hb)) h2⟩
end
mutual
theorem RepV.mono (f : Same Hf Hf') (e : Sm H H') : ∀ (o : O) (v : V), RepV K Hf H o v → RepV K Hf' H' o v
  | .fz d, _, h => Rep.mono f d _ h
  | .ls os, _, h => by
    obtain ⟨a, vs, e1, h1, h2⟩ := h
    exact ⟨a, vs, e1, e.lst h1, RepVs.mono f e os vs h2⟩
  | .tp os, _, h => by
    obtain ⟨a, vs, e1, h1, h2⟩ := h
    exact ⟨a, vs, e1, e.tup h1, RepVs.mono f e os vs h2⟩
  | .ob c ns os, _, h => by
    obtain ⟨a, dx, vs, e1, h1, h3, h4, h2, hn⟩ := h
    exact ⟨a, dx, vs, e1, e.ins h1, e.own h3, h4, RepVs.mono f e os vs h2, hn⟩
  | .dt ks ds, _, h => by
    obtain ⟨a, vs, e1, h1, h3, h2⟩ := h
    exact ⟨a, vs, e1, h1.imp (fun h => e.dT h) (fun ⟨o, h⟩ => ⟨o, e.at h (Hk.ne rfl)⟩), h3, Reps.mono f ds vs h2⟩
  | .dk ks ds, _, h => by
    obtain ⟨a, vs, e1, h1, h3, h2⟩ := h
    exact ⟨a, vs, e1, e.dK h1, h3, Reps.mono f ds vs h2⟩
  | .gh o a m, _, h => RepV.mono f e o _ h
theorem RepVs.mono (f : Same Hf Hf') (e : Sm H H') : ∀ (os : List O) (vs : List V), RepVs K Hf H os vs → RepVs K Hf' H' os vs
  | [], _, h => h
  | o :: os, _, h => by
    obtain ⟨v, r, e1, h1, h2⟩ := h
    exact ⟨v, r, e1, RepV.mono f e o v h1, RepVs.mono f e os r h2⟩
end
mutual
theorem RepO.view : ∀ (o : O) (v : V) (L : List Addr), RepO K Hf H o v L → RepV K Hf H o v
  | .fz _, _, _, h => h.1
  | .ls os, _, _, h => by
    obtain ⟨a, vs, M, e1, h1, h2, _⟩ := h
    exact ⟨a, vs, e1, h1, RepOs.view os vs M h2⟩
  | .tp os, _, _, h => by
    obtain ⟨a, vs, M, e1, h1, h2, _⟩ := h
    exact ⟨a, vs, e1, h1, RepOs.view os vs M h2⟩
  | .ob c ns os, _, _, h => by
    obtain ⟨a, dx, vs, M, e1, h1, h3, h4, h2, hn, _⟩ := h
    exact ⟨a, dx, vs, e1, h1, h3, h4, RepOs.view os vs M h2, hn⟩
  | .dt ks ds, _, _, h => by
    obtain ⟨a, vs, e1, h1, h3, h2, _⟩ := h
    exact ⟨a, vs, e1, .inl h1, h3, h2⟩
  | .dk ks ds, _, _, h => by
    obtain ⟨a, vs, e1, h1, h3, h2, _⟩ := h
    exact ⟨a, vs, e1, h1, h3, h2⟩
  | .gh o a m, _, _, h => by
    obtain ⟨L1, L2, h1, h2, e2⟩ := h
    exact RepO.view o _ L1 h1
theorem RepOs.view : ∀ (os : List O) (vs : List V) (L : List Addr), RepOs K Hf H os vs L → RepVs K Hf H os vs
  | [], _, _, h => h.1
  | o :: os, _, _, h => by
    obtain ⟨v, r, L1, L2, e1, _, h1, h2⟩ := h
    exact ⟨v, r, e1, RepO.view o v L1 h1, RepOs.view os r L2 h2⟩
end
def NX (H : Hp) (L : List Addr) : Prop := ∀ a ∈ L, ∀ φ : Hk, H a ≠ some φ.o
def addF (Hf H : Hp) (L : List Addr) : Hp := fun a => if a ∈ L then H a else Hf a
theorem addF_in {L : List Addr} {a : Addr} (h : a ∈ L) : addF Hf H L a = H a := if_pos h
theorem addF_out {L : List Addr} {a : Addr} (h : a ∉ L) : addF Hf H L a = Hf a := if_neg h
theorem addF_same {L : List Addr} (hf : ∀ a ∈ L, Hf a = none) : Same Hf (addF Hf H L) := fun a o e => by
  by_cases h : a ∈ L
  · rw [hf a h] at e; cases e
  · rw [addF_out h]; exact e
theorem addF_sub {L : List Addr} (s : Same Hf H) : Same (addF Hf H L) H := fun a o e => by
  by_cases h : a ∈ L
  · rw [addF_in h] at e; exact e
  · rw [addF_out h] at e; exact s a o e
theorem Rows.add {T : List Addr} {L : List Addr} (r : Rows T Hf H) (nx : NX H L) (nr : NR H L) (hf : ∀ a ∈ L, Hf a = none) : Rows T (addF Hf H L) H := by
  refine r.ro (addF_same hf) (fun a o h q => ?_) (fun a C dx fs h q => ?_) fun _ _ h => h
  · by_cases ha : a ∈ L
    · rw [addF_in ha] at h
      intro k
      obtain ⟨φ, z⟩ := isKn_ext k
      exact nx a ha φ (by rw [h, z])
    · rw [addF_out ha, q] at h; cases h
  · by_cases ha : a ∈ L
    · rw [addF_in ha] at h; exact nr a ha C dx fs h
    · rw [addF_out ha, q] at h; cases h
theorem NX.kp {L : List Addr} (n : NX H L) (e : Sm H H') : ∀ a ∈ L, ∀ u, H a = some u → H' a = some u := fun a ha u h => e.at h fun φ z => n a ha φ (by rw [h, z])
mutual
theorem RepO.nx : ∀ (o : O) (v : V) (L : List Addr), RepO K Hf H o v L → NX H L
  | .fz _, _, _, h => by rw [h.2]; exact fun a ha => nomatch ha
  | .ls os, _, _, h => by
    obtain ⟨a, vs, M, e1, h1, h2, e2⟩ := h
    subst e2
    intro b hb φ z
    rcases List.mem_cons.mp hb with e | e
    · subst e; rw [h1] at z; cases φ <;> cases z
    · exact RepOs.nx os vs M h2 b e φ z
  | .tp os, _, _, h => by
    obtain ⟨a, vs, M, e1, h1, h2, e2⟩ := h
    subst e2
    intro b hb φ z
    rcases List.mem_cons.mp hb with e | e
    · subst e; rw [h1] at z; cases φ <;> cases z
    · exact RepOs.nx os vs M h2 b e φ z
  | .ob c ns os, _, _, h => by
    obtain ⟨a, dx, vs, M, e1, h1, h3, h4, h2, hn, e2⟩ := h
    subst e2
    intro b hb φ z
    rcases List.mem_cons.mp hb with e | e
    · subst e; rw [h1] at z; cases φ <;> cases z
    · rcases List.mem_cons.mp e with e | e
      · subst e; rw [h3] at z; cases φ <;> cases z
      · exact RepOs.nx os vs M h2 b e φ z
  | .dt ks ds, _, _, h => by
    obtain ⟨a, vs, e1, h1, h3, h2, e2⟩ := h
    subst e2
    intro b hb φ z
    rcases List.mem_cons.mp hb with e | e
    · subst e; rw [h1] at z; cases φ <;> cases z
    · cases e
  | .dk ks ds, _, _, h => by
    obtain ⟨a, vs, e1, h1, h3, h2, e2⟩ := h
    subst e2
    intro b hb φ z
    rcases List.mem_cons.mp hb with e | e
    · subst e; rw [h1] at z; cases φ <;> cases z
    · cases e
  | .gh o a m, _, _, h => by
    obtain ⟨L1, L2, h1, h2, e2⟩ := h
    subst e2
    intro b hb φ z
    rcases List.mem_append.mp hb with e | e
    · exact RepO.nx o _ L1 h1 b e φ z
    · exact RepO.nx m _ L2 h2 b e φ z
theorem RepOs.nx : ∀ (os : List O) (vs : List V) (L : List Addr), RepOs K Hf H os vs L → NX H L
  | [], _, _, h => by rw [h.2]; exact fun a ha => nomatch ha
  | o :: os, _, _, h => by
    obtain ⟨v, r, L1, L2, e1, e2, h1, h2⟩ := h
    subst e2
    intro b hb φ z
    rcases List.mem_append.mp hb with e | e
    · exact RepO.nx o v L1 h1 b e φ z
    · exact RepOs.nx os r L2 h2 b e φ z
end
theorem zip_fst {ns : List Str} {vs : List V} (h : ns.length = vs.length) : (ns.zip vs).map (·.1) = ns := by
  rw [List.map_fst_zip]
  omega
theorem RepOs.length0 : ∀ {os : List O} {vs : List V} {L : List Addr}, RepOs K Hf H os vs L → vs.length = os.length
  | [], _, _, h => by have h : _ = _ := h.1; subst h; rfl
  | d :: ds, _, _, h => by
    obtain ⟨v, r, L1, L2, e1, _, _, h2⟩ := h
    subst e1
    simp [RepOs.length0 h2]
mutual
theorem RepO.nr : ∀ (o : O) (v : V) (L : List Addr), RepO K Hf H o v L → NR H L
  | .fz _, _, _, h => by rw [h.2]; exact fun a ha => nomatch ha
  | .ls os, _, _, h => by
    obtain ⟨a, vs, M, e1, h1, h2, e2⟩ := h
    subst e2
    intro b hb C dx fs z
    rcases List.mem_cons.mp hb with e | e
    · subst e; rw [h1] at z; cases z
    · exact RepOs.nr os vs M h2 b e C dx fs z
  | .tp os, _, _, h => by
    obtain ⟨a, vs, M, e1, h1, h2, e2⟩ := h
    subst e2
    intro b hb C dx fs z
    rcases List.mem_cons.mp hb with e | e
    · subst e; rw [h1] at z; cases z
    · exact RepOs.nr os vs M h2 b e C dx fs z
  | .ob c ns os, _, _, h => by
    obtain ⟨a, dx, vs, M, e1, h1, h3, h4, h2, hn, e2⟩ := h
    subst e2
    intro b hb C dx' fs z
    rcases List.mem_cons.mp hb with e | e
    · subst e; rw [h1] at z; cases z; rw [zip_fst (by rw [h4, RepOs.length0 h2])]; exact hn
    · rcases List.mem_cons.mp e with e | e
      · subst e; rw [h3] at z; cases z
      · exact RepOs.nr os vs M h2 b e C dx' fs z
  | .dt ks ds, _, _, h => by
    obtain ⟨a, vs, e1, h1, h3, h2, e2⟩ := h
    subst e2
    intro b hb C dx fs z
    rcases List.mem_cons.mp hb with e | e
    · subst e; rw [h1] at z; cases z
    · cases e
  | .dk ks ds, _, _, h => by
    obtain ⟨a, vs, e1, h1, h3, h2, e2⟩ := h
    subst e2
    intro b hb C dx fs z
    rcases List.mem_cons.mp hb with e | e
    · subst e; rw [h1] at z; cases z
    · cases e
  | .gh o a m, _, _, h => by
    obtain ⟨L1, L2, h1, h2, e2⟩ := h
    subst e2
    intro b hb C dx fs z
    rcases List.mem_append.mp hb with e | e
    · exact RepO.nr o _ L1 h1 b e C dx fs z
    · exact RepO.nr m _ L2 h2 b e C dx fs z
theorem RepOs.nr : ∀ (os : List O) (vs : List V) (L : List Addr), RepOs K Hf H os vs L → NR H L
  | [], _, _, h => by rw [h.2]; exact fun a ha => nomatch ha
  | o :: os, _, _, h => by
    obtain ⟨v, r, L1, L2, e1, e2, h1, h2⟩ := h
    subst e2
    intro b hb C dx fs z
    rcases List.mem_append.mp hb with e | e
    · exact RepO.nr o v L1 h1 b e C dx fs z
    · exact RepOs.nr os r L2 h2 b e C dx fs z
end
mutual
theorem RepO.frozen (G : Hp) (f : Same Hf G) : ∀ (o : O) (v : V) (L : List Addr), (∀ a ∈ L, G a = H a) → RepO K Hf H o v L → Rep K G (er o) v
  | .fz d, _, _, _, h => Rep.mono f d _ h.1
  | .ls os, _, _, e, h => by
    obtain ⟨a, vs, M, e1, h1, h2, e2⟩ := h
    subst e2
    refine ⟨a, vs, e1, ?_, RepOs.frozen G f os vs M (fun b hb => e b (List.mem_cons_of_mem _ hb)) h2⟩
    rw [e a List.mem_cons_self]; exact h1
  | .tp os, _, _, e, h => by
    obtain ⟨a, vs, M, e1, h1, h2, e2⟩ := h
    subst e2
    refine ⟨a, vs, e1, ?_, RepOs.frozen G f os vs M (fun b hb => e b (List.mem_cons_of_mem _ hb)) h2⟩
    rw [e a List.mem_cons_self]; exact h1
  | .ob c ns os, _, _, e, h => by
    obtain ⟨a, dx, vs, M, e1, h1, h3, h4, h2, hn, e2⟩ := h
    subst e2
    refine ⟨a, dx, vs, e1, ?_, ?_, by rw [h4, ers_eq, List.length_map], RepOs.frozen G f os vs M (fun b hb => e b (by simp [hb])) h2⟩
    · rw [e a List.mem_cons_self]; exact h1
    · rw [e dx (by simp)]; exact h3
  | .dt ks ds, _, _, e, h => by
    obtain ⟨a, vs, e1, h1, h3, h2, e2⟩ := h
    subst e2
    refine ⟨a, vs, e1, .inl ?_, h3, Reps.mono f ds vs h2⟩
    rw [e a List.mem_cons_self]; exact h1
  | .dk ks ds, _, _, e, h => by
    obtain ⟨a, vs, e1, h1, h3, h2, e2⟩ := h
    subst e2
    refine ⟨a, vs, e1, ?_, h3, Reps.mono f ds vs h2⟩
    rw [e a List.mem_cons_self]; exact h1
  | .gh o a m, _, _, e, h => by
    obtain ⟨L1, L2, h1, h2, e2⟩ := h
    subst e2
    exact RepO.frozen G f o _ L1 (fun b hb => e b (List.mem_append_left _ hb)) h1
theorem RepOs.frozen (G : Hp) (f : Same Hf G) : ∀ (os : List O) (vs : List V) (L : List Addr), (∀ a ∈ L, G a = H a) → RepOs K Hf H os vs L → Reps K G (ers os) vs
  | [], _, _, _, h => h.1
  | o :: os, _, _, e, h => by
    obtain ⟨v, r, L1, L2, e1, e2, h1, h2⟩ := h
    subst e2
    exact ⟨v, r, e1, RepO.frozen G f o v L1 (fun b hb => e b (List.mem_append_left _ hb)) h1, RepOs.frozen G f os r L2 (fun b hb => e b (List.mem_append_right _ hb)) h2⟩
end
theorem Reps.length : ∀ {ds : List D} {vs : List V}, Reps K H ds vs → vs.length = ds.length
  | [], _, h => by have h : _ = _ := h; subst h; rfl
  | d :: ds, _, h => by
    obtain ⟨v, r, e1, _, h2⟩ := h
    subst e1
    simp [Reps.length h2]
theorem RepVs.length : ∀ {os : List O} {vs : List V}, RepVs K Hf H os vs → vs.length = os.length
  | [], _, h => by have h : _ = _ := h; subst h; rfl
  | d :: ds, _, h => by
    obtain ⟨v, r, e1, _, h2⟩ := h
    subst e1
    simp [RepVs.length h2]
theorem RepOs.length : ∀ {os : List O} {vs : List V} {L : List Addr}, RepOs K Hf H os vs L → vs.length = os.length
  | [], _, _, h => by have h : _ = _ := h.1; subst h; rfl
  | d :: ds, _, _, h => by
    obtain ⟨v, r, L1, L2, e1, _, _, h2⟩ := h
    subst e1
    simp [RepOs.length h2]
end
def kO (k : List Key) : O := .tp (k.map fun x => match x with | .inl i => .fz (.int i) | .inr t => .fz (.str t))
theorem kO_rep {K : PySem.W.Frag} {Hf H : Hp} {q : Addr} : ∀ {k : List Key}, H q = some (.tup (k.map kV)) → RepV K Hf H (kO k) (.ref q) := fun {k} h => by
  refine ⟨q, k.map kV, rfl, h, ?_⟩
  clear h
  induction k with
  | nil => rfl
  | cons x k ih =>
    refine ⟨kV x, k.map kV, rfl, ?_, ih⟩
    cases x <;> rfl
inductive Res (α : Type) where | ok (a : α) | exc (e : Ec) | bad
def Res.bind {α β : Type} (x : Res α) (f : α → Res β) : Res β := match x with
  | .ok a => f a
  | .exc e => .exc e
  | .bad => .bad
instance : Monad Res where
  pure := .ok
  bind := Res.bind
inductive S where | un | vl (own : Bool) (o : O)
  | me (a : Addr) (o : O)
  | tq (k : List Key)
  | lt (a : Addr) (o : O)
  | fa (f : Addr)
abbrev Env := List S
inductive Out where | nx (r : Env) | ret (o : O) | bk (r : Env) | ct (r : Env) | exc (e : Ec) (r : Env) | bad
inductive R where | nw (o : O) | vw (o : O) | bw (o : O)
abbrev FE := Env → Res R
abbrev FS := Env → Out
structure Ext (Hf H Hf' H' : Hp) : Prop where
  same : Sm H H'
  fsame : Same Hf Hf'
  sub : Same Hf' H'
  keep : ∀ a, H a ≠ none → Hf' a ≠ none → Hf a ≠ none
  rows : ∀ {T : List Addr}, Rows T Hf H → Rows T Hf' H'
theorem Ext.refl {Hf H : Hp} (s : Same Hf H) : Ext Hf H Hf H := ⟨Sm.refl _, Same.refl _, s, fun _ _ h => h, fun h => h⟩
theorem Ext.trans {Hf H Hf1 H1 Hf2 H2 : Hp} (x : Ext Hf H Hf1 H1) (y : Ext Hf1 H1 Hf2 H2) : Ext Hf H Hf2 H2 :=
  ⟨x.same.trans y.same, x.fsame.trans y.fsame, y.sub, fun a h1 h2 => x.keep a h1 (y.keep a (x.same.ne_none h1) h2), fun h => y.rows (x.rows h)⟩
def SlotR (K : PySem.W.Frag) (Hf H0 H : Hp) : S → Option V → List Addr → Prop
  | .un, _, L => L = []
  | .me a o, some v, L => v = .ref a ∧ RepO K Hf H o v L
  | .me _ _, none, _ => False
  | .tq k, some v, L => L = [] ∧ ∃ q, v = .ref q ∧ H q = some (.tup (k.map kV))
  | .tq _, none, _ => False
  | .lt a o, some v, L => L = [] ∧ v = .ref a ∧ RepV K Hf H0 o v
  | .lt _ _, none, _ => False
  | .fa f, some v, L => L = [] ∧ v = .ref f
  | .fa _, none, _ => False
  | .vl true o, some v, L => RepO K Hf H o v L
  | .vl false o, some v, L => RepV K Hf H0 o v ∧ L = []
  | .vl _ _, none, _ => False
def EnvR (K : PySem.W.Frag) (Hf H0 H : Hp) : Env → St → List Addr → Prop
  | [], s, L => s = [] ∧ L = []
  | x :: r, s, L => ∃ y t L1 L2, s = y :: t ∧ L = L1 ++ L2 ∧ SlotR K Hf H0 H x y L1 ∧ EnvR K Hf H0 H r t L2
structure SR (K : PySem.W.Frag) (Hf0 H0 : Hp) (r : Env) (s : St) (Hf H : Hp) (L : List Addr) : Prop where
  ext : Ext Hf0 H0 Hf H
  env : EnvR K Hf H0 H r s L
  nd : L.Nodup
  fr : ∀ a ∈ L, Hf a = none ∧ H0 a = none
  ok : ∀ a ∈ L, H a ≠ none
  rows : Rows (tK K) Hf H
def ResR (K : PySem.W.Frag) (H0 Hf H : Hp) : R → V → List Addr → Prop
  | .nw o, v, L => RepO K Hf H o v L
  | .vw o, v, L => RepV K Hf H o v ∧ L = []
  | .bw o, v, L => RepV K Hf H0 o v ∧ L = []
structure Nw (H Hf' H' : Hp) (L : List Addr) : Prop where
  nd : L.Nodup
  fr : ∀ a ∈ L, H a = none ∧ Hf' a = none ∧ H' a ≠ none
abbrev Wx := Value → Option Addr → St → Hp → Prop
structure Cn where
  Hf0 : Hp
  H0 : Hp
  W : Wx
abbrev Cn.SR (c : Cn) (K : PySem.W.Frag) (r : Env) (s : St) (Hf H : Hp) (L : List Addr) : Prop := DL.SR K c.Hf0 c.H0 r s Hf H L
def PostX (c : Cn) (K : PySem.W.Frag) (s : St) (Hf H : Hp) (e : Ec) : Prop := ∀ cls d Hf' H', Ext Hf H Hf' H' → EcR K e cls d Hf' → c.W cls d s H'
def PostE (c : Cn) (K : PySem.W.Frag) (s : St) (Hf H : Hp) (Q : VK) : Res R → Prop
  | .ok r => ∀ v Hf' H' L, Ext Hf H Hf' H' → ResR K c.H0 Hf' H' r v L → Nw H Hf' H' L → Q v H'
  | .exc e => PostX c K s Hf H e
  | .bad => False
def PostT (c : Cn) (K : PySem.W.Frag) (s : St) (Hf H : Hp) (Q : Bool → Hp → Prop) : Res Bool → Prop
  | .ok b => ∀ Hf' H', Ext Hf H Hf' H' → Q b H'
  | .exc e => PostX c K s Hf H e
  | .bad => False
def PostA (c : Cn) (K : PySem.W.Frag) (s : St) (Hf H : Hp) (Q : List V → Hp → Prop) : Res (List O) → Prop
  | .ok os => ∀ vs Hf' H', Ext Hf H Hf' H' → RepVs K Hf' H' os vs → Q vs H'
  | .exc e => PostX c K s Hf H e
  | .bad => False
def PostS (c : Cn) (K : PySem.W.Frag) (G : Hp) (D : Ends) : Out → Prop
  | .nx r => ∀ s Hf H L, Same G Hf → c.SR K r s Hf H L → D.nx s H
  | .bk r => ∀ s Hf H L, Same G Hf → c.SR K r s Hf H L → D.bk s H
  | .ct r => ∀ s Hf H L, Same G Hf → c.SR K r s Hf H L → D.ct s H
  | .ret o => ∀ v Hf H L, Same G Hf → Ext c.Hf0 c.H0 Hf H → RepO K Hf H o v L → Nw c.H0 Hf H L → D.rt v H
  | .exc e r => ∀ s cls d Hf H L, Same G Hf → c.SR K r s Hf H L → EcR K e cls d Hf → c.W cls d s H
  | .bad => False
def SoE (c : Cn) (K : PySem.W.Frag) (t : TE) (f : FE) : Prop := ∀ r s Hf H L, c.SR K r s Hf H L → ∀ Q, PostE c K s Hf H Q (f r) → t s H Q
def SoT (c : Cn) (K : PySem.W.Frag) (t : TT) (f : Env → Res Bool) : Prop := ∀ r s Hf H L, c.SR K r s Hf H L → ∀ Q, PostT c K s Hf H Q (f r) → t s H Q
def SoA (c : Cn) (K : PySem.W.Frag) (t : TA) (f : Env → Res (List O)) : Prop := ∀ r s Hf H L, c.SR K r s Hf H L → ∀ Q, PostA c K s Hf H Q (f r) → t s H Q
def SoS (c : Cn) (K : PySem.W.Frag) (t : TS) (f : FS) : Prop := ∀ r s Hf H L, c.SR K r s Hf H L → ∀ D, PostS c K Hf D (f r) → t D s H
theorem PostS.mono {c : Cn} {K : PySem.W.Frag} {G G' : Hp} {D : Ends} {o : Out} (e : Same G G') (h : PostS c K G D o) : PostS c K G' D o := by
  cases o with
  | nx r => exact fun s Hf H L f => h s Hf H L (e.trans f)
  | bk r => exact fun s Hf H L f => h s Hf H L (e.trans f)
  | ct r => exact fun s Hf H L f => h s Hf H L (e.trans f)
  | ret o => exact fun v Hf H L f => h v Hf H L (e.trans f)
  | exc e' r => exact fun s cls d Hf H L f => h s cls d Hf H L (e.trans f)
  | bad => exact h
structure DE (c : Cn) (X : Cx) (e : Expr) (f : FE) : Prop where
  ex : ∃ t, PE X e t ∧ SoE c X.K t f
structure DT (c : Cn) (X : Cx) (e : Expr) (f : Env → Res Bool) : Prop where
  ex : ∃ t, PT X e t ∧ SoT c X.K t f
structure DW (c : Cn) (X : Cx) (e : Expr) (f : Env → Res Bool) : Prop where
  ex : ∃ t, PW X e t ∧ SoT c X.K t f
structure DA (c : Cn) (X : Cx) (e : List Expr) (f : Env → Res (List O)) : Prop where
  ex : ∃ t, PA X e t ∧ SoA c X.K t f
structure DS (c : Cn) (X : Cx) (st : Stmt) (f : FS) : Prop where
  ex : ∃ t, PS X st t ∧ SoS c X.K t f
structure DSs (c : Cn) (X : Cx) (st : List Stmt) (f : FS) : Prop where
  ex : ∃ t, PSs X st t ∧ SoS c X.K t f
section
variable {K : PySem.W.Frag} {H0 H H' Hf Hf' : Hp}
def Tst (H H' : Hp) : Prop := ∀ q xs, H q = some (.tup xs) → H' q = some (.tup xs)
theorem Tst.sm {H H' : Hp} (e : Sm H H') : Tst H H' := fun _ _ h => e.tup h
theorem Tst.rf {H : Hp} : Tst H H := fun _ _ h => h
theorem Tst.up {H : Hp} {p : Addr} {u u' : HO} (h : H p = some u) (n : ∀ xs, u ≠ .tup xs) : Tst H (upd H p u') := fun q xs z => by
  by_cases e : q = p
  · subst e; rw [h] at z; exact absurd (Option.some.inj z) (n xs)
  · rw [upd_ne e]; exact z
theorem Tst.su {H H1 : Hp} {p : Addr} {u u' : HO} (e : Sm H H1) (h : H p = some u) (n : ∀ xs, u ≠ .tup xs) : Tst H (upd H1 p u') := fun q xs z => by
  by_cases e' : q = p
  · subst e'; rw [h] at z; exact absurd (Option.some.inj z) (n xs)
  · rw [upd_ne e']; exact e.tup z
theorem Tst.new {H : Hp} {p : Addr} {u : HO} (h : H p = none) : Tst H (upd H p u) := fun q xs z => by rw [upd_ne (ne_of_none z h)]; exact z
theorem EnvR.mono (f : Same Hf Hf') (T : Tst H H') : ∀ {r : Env} {s : St} {L : List Addr}, (∀ a ∈ L, ∀ u, H a = some u → H' a = some u) → EnvR K Hf H0 H r s L → EnvR K Hf' H0 H' r s L
  | [], _, _, _, h => h
  | x :: r, _, L, e, h => by
    obtain ⟨y, t, L1, L2, e1, e2, h1, h2⟩ := h
    subst e2
    refine ⟨y, t, L1, L2, e1, rfl, ?_, EnvR.mono f T (fun b hb => e b (List.mem_append_right _ hb)) h2⟩
    cases x with
    | un => exact h1
    | me a o =>
      cases y with
      | none => exact h1
      | some v => exact ⟨h1.1, RepO.mono f o v L1 (fun b hb => e b (List.mem_append_left _ hb)) h1.2⟩
    | tq k =>
      cases y with
      | none => exact h1
      | some v => exact let ⟨h2, q, h3, h4⟩ := h1; ⟨h2, q, h3, T _ _ h4⟩
    | lt a o =>
      cases y with
      | none => exact h1
      | some v => exact ⟨h1.1, h1.2.1, RepV.mono f (Sm.refl _) o v h1.2.2⟩
    | fa a =>
      cases y with
      | none => exact h1
      | some v => exact h1
    | vl w o =>
      cases y with
      | none => cases w <;> exact h1
      | some v =>
        cases w with
        | true => exact RepO.mono f o v L1 (fun b hb => e b (List.mem_append_left _ hb)) h1
        | false => exact ⟨RepV.mono f (Sm.refl _) o v h1.1, h1.2⟩
theorem EnvR.at : ∀ {r : Env} {s : St} {L : List Addr} {i : Nat} {x : S}, EnvR K Hf H0 H r s L → r[i]? = some x → ∃ y L1 M L2, s[i]? = some y ∧ L = L1 ++ M ++ L2 ∧ SlotR K Hf H0 H x y M ∧
    ∀ (Hf' H' : Hp) (x' : S) (y' : Option V) (M' : List Addr), Same Hf Hf' → Tst H H' → (∀ a ∈ L1 ++ L2, ∀ u, H a = some u → H' a = some u) → SlotR K Hf' H0 H' x' y' M' → EnvR K Hf' H0 H' (r.set i x') (s.set i y') (L1 ++ M' ++ L2)
  | [], _, _, _, _, _, e => by simp at e
  | z :: r, _, L, 0, x, h, e => by
    obtain ⟨y, t, L1, L2, e1, e2, h1, h2⟩ := h
    subst e1 e2
    have e3 : z = x := by simpa using e
    subst e3
    refine ⟨y, [], L1, L2, rfl, rfl, h1, fun Hf' H' x' y' M' f T k q => ?_⟩
    exact ⟨y', t, M', L2, rfl, rfl, q, h2.mono f T fun a ha => k a (by simpa using ha)⟩
  | z :: r, _, L, i + 1, x, h, e => by
    obtain ⟨y, t, L1, L2, e1, e2, h1, h2⟩ := h
    subst e1 e2
    obtain ⟨y2, A, M, B, f1, f2, f3, f4⟩ := EnvR.at (i := i) (x := x) h2 (by simpa using e)
    subst f2
    refine ⟨y2, L1 ++ A, M, B, by simpa using f1, by simp [List.append_assoc], f3, fun Hf' H' x' y' M' f T k q => ?_⟩
    refine ⟨y, t.set i y', L1, A ++ M' ++ B, rfl, by simp [List.append_assoc], ?_, f4 Hf' H' x' y' M' f T (fun a ha => k a ?_) q⟩
    · have one : EnvR K Hf' H0 H' [z] [y] L1 := EnvR.mono (H := H) f T (fun a ha => k a (by simp [ha])) ⟨y, [], L1, [], rfl, by simp, h1, rfl, rfl⟩
      obtain ⟨y3, t3, A1, A2, g1, g2, g3, g4⟩ := one
      cases g1
      obtain ⟨g5, g6⟩ := g4
      subst g6
      rw [List.append_nil] at g2
      subst g2
      exact g3
    · simp only [List.mem_append] at ha ⊢
      rcases ha with ha | ha
      · exact .inl (.inr ha)
      · exact .inr ha
theorem EnvR.nx : ∀ {r : Env} {s : St} {L : List Addr}, EnvR K Hf H0 H r s L → NX H L
  | [], _, _, h => by rw [h.2]; exact fun a ha => nomatch ha
  | x :: r, _, L, h => by
    obtain ⟨y, t, L1, L2, e1, e2, h1, h2⟩ := h
    subst e2
    intro b hb φ z
    rcases List.mem_append.mp hb with e | e
    · cases x with
      | un => rw [show L1 = [] from h1] at e; cases e
      | me a o =>
        cases y with
        | none => exact h1.elim
        | some v => exact RepO.nx o v L1 h1.2 b e φ z
      | tq k =>
        cases y with
        | none => exact h1.elim
        | some v => rw [h1.1] at e; cases e
      | lt _ _ =>
        cases y with
        | none => exact h1.elim
        | some v => rw [h1.1] at e; cases e
      | fa _ =>
        cases y with
        | none => exact h1.elim
        | some v => rw [h1.1] at e; cases e
      | vl w o =>
        cases y with
        | none => cases w <;> exact h1.elim
        | some v =>
          cases w with
          | true => exact RepO.nx o v L1 h1 b e φ z
          | false => rw [h1.2] at e; cases e
    · exact h2.nx b e φ z
theorem EnvR.length : ∀ {r : Env} {s : St} {L : List Addr}, EnvR K Hf H0 H r s L → s.length = r.length
  | [], _, _, h => by rw [h.1]; rfl
  | x :: r, _, L, h => by
    obtain ⟨y, t, L1, L2, e1, e2, h1, h2⟩ := h
    subst e1
    simp [h2.length]
theorem Ext.nf {Hf H Hf' H' : Hp} (x : Ext Hf H Hf' H') {a : Addr} (h1 : H a ≠ none) (h2 : Hf a = none) : Hf' a = none := by
  cases q : Hf' a with
  | none => rfl
  | some o => exact absurd h2 (x.keep a h1 (by rw [q]; simp))
theorem Ext.fresh {Hf H Hf' H' : Hp} (x : Ext Hf H Hf' H') {a : Addr} (h : H' a = none) : H a = none := x.same.free h
theorem SR.sub {Hf0 : Hp} {r : Env} {s : St} {L : List Addr} (h : SR K Hf0 H0 r s Hf H L) : Same Hf H := h.ext.sub
theorem SR.mono {Hf0 : Hp} {r : Env} {s : St} {L : List Addr} (h : SR K Hf0 H0 r s Hf H L) (x : Ext Hf H Hf' H') : SR K Hf0 H0 r s Hf' H' L :=
  ⟨h.ext.trans x, h.env.mono x.fsame (Tst.sm x.same) (h.env.nx.kp x.same), h.nd, fun a ha => ⟨x.nf (h.ok a ha) (h.fr a ha).1, (h.fr a ha).2⟩, fun a ha => x.same.ne_none (h.ok a ha), x.rows h.rows⟩
theorem ResR.mono {r : R} {v : V} {L : List Addr} (f : Same Hf Hf') (e : Sm H H') (h : ResR K H0 Hf H r v L) : ResR K H0 Hf' H' r v L := by
  cases r with
  | nw o => exact RepO.mono f o v L ((RepO.nx o v L h).kp e) h
  | vw o => exact ⟨RepV.mono f e o v h.1, h.2⟩
  | bw o => exact ⟨RepV.mono f (Sm.refl _) o v h.1, h.2⟩
def R.a : R → O
  | .nw o => .fz (er o)
  | .vw o => o
  | .bw o => o
theorem Ext.add {L : List Addr} (x : Ext Hf H Hf' H') (n : Nw H Hf' H' L) (nq : NX H' L ∧ NR H' L) : Ext Hf H (addF Hf' H' L) H' :=
  ⟨x.same, x.fsame.trans (addF_same fun a ha => (n.fr a ha).2.1), addF_sub x.sub, fun a h1 h2 => by
    by_cases ha : a ∈ L
    · exact absurd (n.fr a ha).1 h1
    · rw [addF_out ha] at h2
      exact x.keep a h1 h2, fun h => (x.rows h).add nq.1 nq.2 fun a ha => (n.fr a ha).2.1⟩
theorem addF_nw {L : List Addr} (n : Nw H Hf' H' L) : Same Hf' (addF Hf' H' L) := addF_same fun a ha => (n.fr a ha).2.1
theorem ResR.nq {r : R} {v : V} {L : List Addr} (h : ResR K H0 Hf H r v L) : NX H L ∧ NR H L := by
  cases r with
  | nw o => exact ⟨RepO.nx o v L h, RepO.nr o v L h⟩
  | vw o => rw [h.2]; exact ⟨fun a ha => (nomatch ha), fun a ha => (nomatch ha)⟩
  | bw o => rw [h.2]; exact ⟨fun a ha => (nomatch ha), fun a ha => (nomatch ha)⟩
def see (own : Bool) : O → R
  | .fz d => .nw (.fz d)
  | o => if own then .vw o else .bw o
end
end DL
namespace DL
open PySem L2
def items : O → Option (List O)
  | .ls os => some os
  | .fz (.lst ds) => some (ds.map .fz)
  | .fz (.scr ns) => some (ns.map fun n => .fz (.int n))
  | _ => none
section
variable {K : PySem.W.Frag} {H0 H H' Hf Hf' : Hp}
theorem reps_fz : ∀ {ds : List D} {vs : List V}, Reps K Hf ds vs → RepVs K Hf H (ds.map .fz) vs
  | [], _, h => h
  | d :: ds, _, h => by
    obtain ⟨v, r, e, h1, h2⟩ := h
    exact ⟨v, r, e, h1, reps_fz h2⟩
theorem ints_fz : ∀ {ns : List Int}, RepVs K Hf H (ns.map fun n => .fz (.int n)) (ns.map V.int)
  | [] => rfl
  | n :: ns => ⟨_, _, rfl, rfl, ints_fz⟩
theorem items_rep {o : O} {os : List O} {v : V} (s : Same Hf H) (h : RepV K Hf H o v) (e : items o = some os) : ∃ a vs, v = .ref a ∧ SqL K H a vs ∧ RepVs K Hf H os vs := by
  cases o with
  | ls os' =>
    have e' : os' = os := Option.some.inj e
    subst e'
    obtain ⟨a, vs, e1, h1, h2⟩ := h
    exact ⟨a, vs, e1, SqL.of h1, h2⟩
  | tp _ => cases e
  | ob _ _ _ => cases e
  | dt _ _ => cases e
  | dk _ _ => cases e
  | gh _ _ _ => cases e
  | fz d =>
    cases d with
    | lst ds =>
      have e' : ds.map O.fz = os := Option.some.inj e
      subst e'
      obtain ⟨a, vs, e1, h1, h2⟩ := h
      exact ⟨a, vs, e1, SqL.of (s _ _ h1), reps_fz h2⟩
    | scr ns =>
      have e' : (ns.map fun n => O.fz (.int n)) = os := Option.some.inj e
      subst e'
      obtain ⟨a, e1, h1⟩ := h
      exact ⟨a, _, e1, s.seq h1, ints_fz⟩
    | non => cases e
    | bl b => cases e
    | int i => cases e
    | str x => cases e
    | ex c => cases e
    | tup ds => cases e
    | obj _ _ _ => cases e
    | row _ _ => cases e
    | dct _ _ => cases e
    | dck _ _ => cases e
theorem RepVs.get : ∀ {os : List O} {vs : List V} {i : Nat} {o : O}, RepVs K Hf H os vs → os[i]? = some o → ∃ v, vs[i]? = some v ∧ RepV K Hf H o v
  | [], _, _, _, _, e => by simp at e
  | x :: os, _, 0, o, h, e => by
    obtain ⟨v, r, e1, h1, h2⟩ := h
    subst e1
    have e2 : x = o := by simpa using e
    subst e2
    exact ⟨v, rfl, h1⟩
  | x :: os, _, i + 1, o, h, e => by
    obtain ⟨v, r, e1, h1, h2⟩ := h
    subst e1
    obtain ⟨w, hw, hr⟩ := RepVs.get (i := i) (o := o) h2 (by simpa using e)
    exact ⟨w, by simpa using hw, hr⟩
structure Pst (c : Cn) (K : PySem.W.Frag) (s : St) {β : Type} (post : Hp → Hp → Res β → Prop) : Prop where
  bad : ∀ Hf H, ¬ post Hf H .bad
  exc : ∀ Hf H e, post Hf H (.exc e) → PostX c K s Hf H e
  mono : ∀ Hf H Hf' H' z, Ext Hf H Hf' H' → post Hf H z → post Hf' H' z
theorem PostX.mono {c : Cn} {s : St} {e : Ec} (x : Ext Hf H Hf' H') (h : PostX c K s Hf H e) : PostX c K s Hf' H' e := fun cls d Hf2 H2 y q => h cls d Hf2 H2 (x.trans y) q
theorem Nw.mono {L : List Addr} {H1 Hf2 H2 : Hp} (e : Sm H H1) (n : Nw H1 Hf2 H2 L) : Nw H Hf2 H2 L := ⟨n.nd, fun a ha => ⟨e.free (n.fr a ha).1, (n.fr a ha).2⟩⟩
theorem pstE {c : Cn} {s : St} {Q : VK} : Pst c K s (fun Hf H z => PostE c K s Hf H Q z) where
  bad := fun _ _ h => h
  exc := fun _ _ _ h => h
  mono := fun Hf H Hf' H' z x h => by
    cases z with
    | ok r => exact fun v Hf2 H2 L y q n => h v Hf2 H2 L (x.trans y) q (n.mono x.same)
    | exc e => exact PostX.mono x h
    | bad => exact h
theorem pstT {c : Cn} {s : St} {Q : Bool → Hp → Prop} : Pst c K s (fun Hf H z => PostT c K s Hf H Q z) where
  bad := fun _ _ h => h
  exc := fun _ _ _ h => h
  mono := fun Hf H Hf' H' z x h => by
    cases z with
    | ok r => exact fun Hf2 H2 y => h Hf2 H2 (x.trans y)
    | exc e => exact PostX.mono x h
    | bad => exact h
theorem pstA {c : Cn} {s : St} {Q : List V → Hp → Prop} : Pst c K s (fun Hf H z => PostA c K s Hf H Q z) where
  bad := fun _ _ h => h
  exc := fun _ _ _ h => h
  mono := fun Hf H Hf' H' z x h => by
    cases z with
    | ok r => exact fun v Hf2 H2 y q => h v Hf2 H2 (x.trans y) q
    | exc e => exact PostX.mono x h
    | bad => exact h
def ArgR (K : PySem.W.Frag) (H0 Hf H : Hp) : R → V → Prop
  | .nw o, v => Rep K Hf (er o) v
  | .vw o, v => RepV K Hf H o v
  | .bw o, v => RepV K Hf H0 o v
theorem ArgR.a {r : R} {v : V} (s0 : Sm H0 H) (h : ArgR K H0 Hf H r v) : RepV K Hf H r.a v := by
  cases r with
  | nw o => exact h
  | vw o => exact h
  | bw o => exact RepV.mono (Same.refl _) s0 o v h
theorem ArgR.mono {r : R} {v : V} (f : Same Hf Hf') (e : Sm H H') (h : ArgR K H0 Hf H r v) : ArgR K H0 Hf' H' r v := by
  cases r with
  | nw o => exact Rep.mono f _ _ h
  | vw o => exact RepV.mono f e o v h
  | bw o => exact RepV.mono f (Sm.refl _) o v h
theorem ResR.argR {r : R} {v : V} {L : List Addr} (h : ResR K H0 Hf' H' r v L) (n : Nw H Hf' H' L) : ArgR K H0 (addF Hf' H' L) H' r v := by
  cases r with
  | nw o => exact RepO.frozen _ (addF_nw n) o v L (fun a ha => addF_in ha) h
  | vw o => exact RepV.mono (addF_nw n) (Sm.refl _) o v h.1
  | bw o => exact RepV.mono (addF_nw n) (Sm.refl _) o v h.1
variable {c : Cn} {t : TE} {f : FE} {r : Env} {s : St} {L : List Addr} {tt : TT} {ft : Env → Res Bool} {ta : TA} {fa : Env → Res (List O)}
theorem SoE.run (h : SoE c K t f) (sr : c.SR K r s Hf H L) {β : Type} {post : Hp → Hp → Res β → Prop} (P : Pst c K s post) {k : R → Res β} (hp : post Hf H ((f r).bind k)) {Q : VK}
    (hq : ∀ x v Hf1 H1, Ext Hf H Hf1 H1 → c.SR K r s Hf1 H1 L → ArgR K c.H0 Hf1 H1 x v → post Hf1 H1 (k x) → Q v H1) : t s H Q := by
  refine h r s Hf H L sr Q ?_
  cases e : f r with
  | bad => rw [e] at hp; exact absurd hp (P.bad _ _)
  | exc e' => rw [e] at hp; exact P.exc _ _ _ hp
  | ok x =>
    rw [e] at hp
    intro v Hf1 H1 L1 x1 q n
    have x2 := x1.add n q.nq
    exact hq x v _ H1 x2 (sr.mono x2) (q.argR n) (P.mono _ _ _ _ _ x2 hp)
theorem SoT.run (h : SoT c K tt ft) (sr : c.SR K r s Hf H L) {β : Type} {post : Hp → Hp → Res β → Prop} (P : Pst c K s post) {k : Bool → Res β} (hp : post Hf H ((ft r).bind k)) {Q : Bool → Hp → Prop}
    (hq : ∀ b Hf1 H1, Ext Hf H Hf1 H1 → c.SR K r s Hf1 H1 L → post Hf1 H1 (k b) → Q b H1) : tt s H Q := by
  refine h r s Hf H L sr Q ?_
  cases e : ft r with
  | bad => rw [e] at hp; exact absurd hp (P.bad _ _)
  | exc e' => rw [e] at hp; exact P.exc _ _ _ hp
  | ok x =>
    rw [e] at hp
    intro Hf1 H1 x1
    exact hq x Hf1 H1 x1 (sr.mono x1) (P.mono _ _ _ _ _ x1 hp)
theorem SoA.run (h : SoA c K ta fa) (sr : c.SR K r s Hf H L) {β : Type} {post : Hp → Hp → Res β → Prop} (P : Pst c K s post) {k : List O → Res β} (hp : post Hf H ((fa r).bind k)) {Q : List V → Hp → Prop}
    (hq : ∀ os vs Hf1 H1, Ext Hf H Hf1 H1 → c.SR K r s Hf1 H1 L → RepVs K Hf1 H1 os vs → post Hf1 H1 (k os) → Q vs H1) : ta s H Q := by
  refine h r s Hf H L sr Q ?_
  cases e : fa r with
  | bad => rw [e] at hp; exact absurd hp (P.bad _ _)
  | exc e' => rw [e] at hp; exact P.exc _ _ _ hp
  | ok x =>
    rw [e] at hp
    intro v Hf1 H1 x1 q
    exact hq x v Hf1 H1 x1 (sr.mono x1) q (P.mono _ _ _ _ _ x1 hp)
theorem SR.same0 (sr : c.SR K r s Hf H L) : Sm c.H0 H := sr.ext.same
theorem postE_fz {d : D} {Q : VK} {v : V} (sub : Same Hf H) (h : PostE c K s Hf H Q (.ok (.nw (.fz d)))) (hr : Rep K Hf d v) : Q v H :=
  h v Hf H [] (Ext.refl sub) ⟨hr, rfl⟩ ⟨List.nodup_nil, fun _ h => nomatch h⟩
theorem Ext.new {p : Addr} {o : HO} (sub : Same Hf H) (hp : H p = none) : Ext Hf H Hf (upd H p o) :=
  ⟨Same.sm fun a u e => by rw [upd_ne (ne_of_none e hp)]; exact e, Same.refl _, fun a u e => by rw [upd_ne (ne_of_none (sub a u e) hp)]; exact sub a u e, fun _ _ h => h, fun h => h.new hp⟩
theorem sub_none (sub : Same Hf H) {p : Addr} (hp : H p = none) : Hf p = none := sub.free hp
def allFz : List O → Bool
  | [] => true
  | .fz _ :: r => allFz r
  | _ :: _ => false
theorem repVs_O : ∀ {os : List O} {vs : List V}, allFz os = true → RepVs K Hf H os vs → RepOs K Hf H' os vs []
  | [], _, _, h => ⟨h, rfl⟩
  | .fz d :: os, _, e, h => by
    obtain ⟨v, r, e1, h1, h2⟩ := h
    exact ⟨v, r, [], [], e1, rfl, ⟨h1, rfl⟩, repVs_O (by exact e) h2⟩
  | .ls _ :: _, _, e, _ => by cases e
  | .tp _ :: _, _, e, _ => by cases e
  | .ob _ _ _ :: _, _, e, _ => by cases e
  | .dt _ _ :: _, _, e, _ => by cases e
  | .dk _ _ :: _, _, e, _ => by cases e
theorem postE_ls {os : List O} {vs : List V} {Q : VK} {p : Addr} (sub : Same Hf H) (h : PostE c K s Hf H Q (.ok (.nw (.ls os)))) (ha : allFz os = true) (hr : RepVs K Hf H os vs) (hp : H p = none) : Q (.ref p) (upd H p (.lst vs)) :=
  h (.ref p) Hf _ [p] (Ext.new sub hp) ⟨p, vs, [], rfl, upd_same, repVs_O ha hr, rfl⟩ ⟨by simp, fun a ha => by
    have e : a = p := by simpa using ha
    subst e
    exact ⟨hp, sub_none sub hp, by rw [upd_same]; simp⟩⟩
theorem postE_tup {ds : List D} {vs : List V} {Q : VK} {p : Addr} (sub : Same Hf H) (h : PostE c K s Hf H Q (.ok (.nw (.fz (.tup ds))))) (hr : Reps K Hf ds vs) (hp : H p = none) : Q (.ref p) (upd H p (.tup vs)) := by
  have sub2 : Same (upd Hf p (.tup vs)) (upd H p (.tup vs)) := fun a u e => by
    by_cases ha : a = p
    · subst ha; rw [upd_same] at e ⊢; exact e
    · rw [upd_ne ha] at e ⊢; exact sub a u e
  have x : Ext Hf H (upd Hf p (.tup vs)) (upd H p (.tup vs)) := ⟨Same.sm fun a u e => by rw [upd_ne (ne_of_none e hp)]; exact e, fun a u e => by rw [upd_ne (ne_of_none e (sub_none sub hp))]; exact e, sub2, fun a h1 h2 => by
    by_cases ha : a = p
    · subst ha; exact absurd hp h1
    · rw [upd_ne ha] at h2; exact h2, fun h => h.fz hp (fun k => by obtain ⟨φ, z⟩ := isKn_ext k; cases φ <;> cases z) (fun _ _ _ z => nomatch z) (sub_none sub hp)⟩
  exact h (.ref p) _ _ [] x ⟨⟨p, vs, rfl, upd_same, Reps.mono x.fsame ds vs hr⟩, rfl⟩ ⟨List.nodup_nil, fun _ h => nomatch h⟩
end
end DL
namespace DL
open PySem L2
variable {c : Cn} {X : Cx} {a b e : Expr} {f g fa fb : FE} {pos : Pos}
def eVar (i : Nat) : FE := fun r => match r[i]? with
  | some (.vl w o) => .ok (see w o)
  | some (.tq k) => .ok (.vw (kO k))
  | some (.lt _ o) => .ok (see false o)
  | _ => .bad
def eC (d : D) : FE := fun _ => .ok (.nw (.fz d))
theorem de_var {i : Nat} (h : PE X e (tVar i)) : DE c X e (eVar i) := by
  refine ⟨tVar i, h, fun r s Hf H L sr Q q => ?_⟩
  cases er1 : r[i]? with
  | none => simp only [eVar, er1] at q; exact q.elim
  | some x =>
    cases x with
    | un => simp only [eVar, er1] at q; exact q.elim
    | me _ _ => simp only [eVar, er1] at q; exact q.elim
    | lt a o =>
      simp only [eVar, er1] at q
      obtain ⟨y, L1, M, L2, h1, h2, h3, _⟩ := sr.env.at er1
      cases y with
      | none => exact h3.elim
      | some v =>
        refine ⟨v, h1, q v Hf H [] (Ext.refl sr.sub) ?_ ⟨List.nodup_nil, fun _ h => nomatch h⟩⟩
        have h4 := h3.2.2
        cases o with
        | fz d => exact ⟨h4, rfl⟩
        | ls os => exact ⟨h4, rfl⟩
        | tp os => exact ⟨h4, rfl⟩
        | ob _ _ _ => exact ⟨h4, rfl⟩
        | dt _ _ => exact ⟨h4, rfl⟩
        | dk _ _ => exact ⟨h4, rfl⟩
        | gh _ _ _ => exact ⟨h4, rfl⟩
    | fa _ => simp only [eVar, er1] at q; exact q.elim
    | tq k =>
      simp only [eVar, er1] at q
      obtain ⟨y, L1, M, L2, h1, h2, h3, _⟩ := sr.env.at er1
      cases y with
      | none => exact h3.elim
      | some v =>
        obtain ⟨_, qa, ev, hq⟩ := h3
        subst ev
        exact ⟨_, h1, q _ Hf H [] (Ext.refl sr.sub) ⟨kO_rep hq, rfl⟩ ⟨List.nodup_nil, fun _ h => nomatch h⟩⟩
    | vl w o =>
      simp only [eVar, er1] at q
      obtain ⟨y, L1, M, L2, h1, h2, h3, _⟩ := sr.env.at er1
      cases y with
      | none => cases w <;> exact h3.elim
      | some v =>
        refine ⟨v, h1, q v Hf H [] (Ext.refl sr.sub) ?_ ⟨List.nodup_nil, fun _ h => nomatch h⟩⟩
        cases w with
        | true =>
          have h4 := RepO.view o v M h3
          cases o with
          | fz d => exact ⟨h4, rfl⟩
          | ls os => exact ⟨h4, rfl⟩
          | tp os => exact ⟨h4, rfl⟩
          | ob _ _ _ => exact ⟨h4, rfl⟩
          | dt _ _ => exact ⟨h4, rfl⟩
          | dk _ _ => exact ⟨h4, rfl⟩
          | gh _ _ _ => exact ⟨h4, rfl⟩
        | false =>
          obtain ⟨h4, _⟩ := h3
          cases o with
          | fz d => exact ⟨h4, rfl⟩
          | ls os => exact ⟨h4, rfl⟩
          | tp os => exact ⟨h4, rfl⟩
          | ob _ _ _ => exact ⟨h4, rfl⟩
          | dt _ _ => exact ⟨h4, rfl⟩
          | dk _ _ => exact ⟨h4, rfl⟩
          | gh _ _ _ => exact ⟨h4, rfl⟩
theorem de_c {v : V} {d : D} (h : PE X e (tC v)) (hr : ∀ H, Rep X.K H d v) : DE c X e (eC d) :=
  ⟨tC v, h, fun r s Hf H L sr Q q => postE_fz sr.sub q (hr Hf)⟩
theorem de_int {i j} : DE c X (.Constant (.int i) j pos) (eC (.int i)) := de_c pe_int fun _ => rfl
theorem de_bl {b j} : DE c X (.Constant (.bool b) j pos) (eC (.bl b)) := de_c pe_bl fun _ => rfl
theorem de_str {x j} : DE c X (.Constant (.str x) j pos) (eC (.str x)) := de_c pe_str fun _ => rfl
def PureR (K : PySem.W.Frag) (rr : R2) (g : O → O → Res R) : Prop := ∀ (c : Cn) (s : St) (Hf H : Hp) (x y : V) (a b : O) (Q : VK), Same Hf H → RepV K Hf H a x → RepV K Hf H b y → PostE c K s Hf H Q (g a b) → rr x y H Q
def eOp (g : O → O → Res R) (fa fb : FE) : FE := fun r => (fa r).bind fun x => (fb r).bind fun y => g x.a y.a
theorem so_op {K : PySem.W.Frag} {rr : R2} {g : O → O → Res R} {ta tb : TE} (hg : PureR K rr g) (ha : SoE c K ta fa) (hb : SoE c K tb fb) : SoE c K (tOp rr ta tb) (eOp g fa fb) := fun r s Hf H L sr Q q => by
  refine ha.run sr pstE q fun x v Hf1 H1 x1 sr1 a1 q1 => ?_
  refine hb.run sr1 pstE q1 fun y w Hf2 H2 x2 sr2 a2 q2 => ?_
  exact hg c s Hf2 H2 v w _ _ Q sr2.sub ((a1.mono x2.fsame x2.same).a sr2.same0) (a2.a sr2.same0) q2
theorem de_op {op : Operator} {rr : R2} {g : O → O → Res R} (ho : OpR X (binaryOp op) rr) (hg : PureR X.K rr g) (ha : DE c X a fa) (hb : DE c X b fb) : DE c X (.BinOp a op b pos) (eOp g fa fb) := by
  obtain ⟨ta, pa, sa⟩ := ha.ex
  obtain ⟨tb, pb, sb⟩ := hb.ex
  exact ⟨tOp rr ta tb, pe_op ho pa pb, so_op hg sa sb⟩
theorem de_cmp {op : CmpOp} {rr : R2} {g : O → O → Res R} (ho : OpR X (compareOp op) rr) (hg : PureR X.K rr g) (ha : DE c X a fa) (hb : DE c X b fb) (hm : behindInMarks op b = false) : DE c X (.Compare a [op] [b] pos) (eOp g fa fb) := by
  obtain ⟨ta, pa, sa⟩ := ha.ex
  obtain ⟨tb, pb, sb⟩ := hb.ex
  exact ⟨tOp rr ta tb, pe_cmpR ho pa pb hm, so_op hg sa sb⟩
def toB (x : R) : Res Bool := match x.a with
  | .fz (.bl b) => .ok b
  | _ => .bad
def tOf (f : FE) : Env → Res Bool := fun r => (f r).bind toB
theorem so_test {K : PySem.W.Frag} {t : TE} (h : SoE c K t f) : SoT c K (tTest t) (tOf f) := fun r s Hf H L sr Q q => by
  refine h.run sr pstT q fun x v Hf1 H1 x1 sr1 a1 q1 => ?_
  have a2 := a1.a sr1.same0
  cases ex : x.a with
  | ls os => simp only [toB, ex] at q1; exact q1.elim
  | tp os => simp only [toB, ex] at q1; exact q1.elim
  | ob _ _ _ => simp only [toB, ex] at q1; exact q1.elim
  | dt _ _ => simp only [toB, ex] at q1; exact q1.elim
  | dk _ _ => simp only [toB, ex] at q1; exact q1.elim
  | gh _ _ _ => simp only [toB, ex] at q1; exact q1.elim
  | fz d =>
    rw [ex] at a2
    cases d with
    | bl b =>
      simp only [toB, ex] at q1
      exact ⟨b, a2, q1 Hf1 H1 (Ext.refl sr1.sub)⟩
    | non => simp only [toB, ex] at q1; exact q1.elim
    | int i => simp only [toB, ex] at q1; exact q1.elim
    | str i => simp only [toB, ex] at q1; exact q1.elim
    | ex _ => simp only [toB, ex] at q1; exact q1.elim
    | scr _ => simp only [toB, ex] at q1; exact q1.elim
    | lst _ => simp only [toB, ex] at q1; exact q1.elim
    | tup _ => simp only [toB, ex] at q1; exact q1.elim
    | obj _ _ _ => simp only [toB, ex] at q1; exact q1.elim
    | row _ _ => simp only [toB, ex] at q1; exact q1.elim
    | dct _ _ => simp only [toB, ex] at q1; exact q1.elim
    | dck _ _ => simp only [toB, ex] at q1; exact q1.elim
theorem dt_cmp {op : CmpOp} {rr : R2} {g : O → O → Res R} (ho : OpR X (compareOp op) rr) (hg : PureR X.K rr g) (ha : DE c X a fa) (hb : DE c X b fb) (hm : behindInMarks op b = false) : DT c X (.Compare a [op] [b] pos) (tOf (eOp g fa fb)) := by
  obtain ⟨ta, pa, sa⟩ := ha.ex
  obtain ⟨tb, pb, sb⟩ := hb.ex
  exact ⟨tTest (tOp rr ta tb), pt_cmpR ho pa pb hm, so_test (so_op hg sa sb)⟩
theorem dt_val (h : DE c X e f) (he : ∀ whole, isTrue e X.env whole = (do let v ← whole; standAt e.pos; holding [v] (truthy v)) := by intro _; rfl) : DT c X e (tOf f) := by
  obtain ⟨t, p, s⟩ := h.ex
  exact ⟨tB t, pt_val p he, so_test s⟩
def tAndD (f g : Env → Res Bool) : Env → Res Bool := fun r => (f r).bind fun b => if b then g r else .ok false
def tOrD (f g : Env → Res Bool) : Env → Res Bool := fun r => (f r).bind fun b => if b then .ok true else g r
def tNotD (f : Env → Res Bool) : Env → Res Bool := fun r => (f r).bind fun b => .ok (!b)
variable {f1 f2 : Env → Res Bool} {rest : List Expr}
theorem dw_and1 (h : DT c X a f1) : DW c X (.BoolOp .And [a] pos) f1 := let ⟨t, p, s⟩ := h.ex; ⟨t, pw_and1 p, s⟩
theorem dw_or1 (h : DT c X a f1) : DW c X (.BoolOp .Or [a] pos) f1 := let ⟨t, p, s⟩ := h.ex; ⟨t, pw_or1 p, s⟩
theorem dw_and (h1 : DT c X a f1) (h2 : DW c X (.BoolOp .And (b :: rest) pos) f2) : DW c X (.BoolOp .And (a :: b :: rest) pos) (tAndD f1 f2) := by
  obtain ⟨t, p, s⟩ := h1.ex
  obtain ⟨u, p2, s2⟩ := h2.ex
  refine ⟨tAnd t u, pw_and p p2, fun r s' Hf H L sr Q q => ?_⟩
  refine s.run sr pstT q fun b Hf1 H1 x1 sr1 q1 => ?_
  cases b with
  | true => exact s2 r s' Hf1 H1 L sr1 Q q1
  | false => exact q1 Hf1 H1 (Ext.refl sr1.sub)
theorem dw_or (h1 : DT c X a f1) (h2 : DW c X (.BoolOp .Or (b :: rest) pos) f2) : DW c X (.BoolOp .Or (a :: b :: rest) pos) (tOrD f1 f2) := by
  obtain ⟨t, p, s⟩ := h1.ex
  obtain ⟨u, p2, s2⟩ := h2.ex
  refine ⟨tOr t u, pw_or p p2, fun r s' Hf H L sr Q q => ?_⟩
  refine s.run sr pstT q fun b Hf1 H1 x1 sr1 q1 => ?_
  cases b with
  | true => exact q1 Hf1 H1 (Ext.refl sr1.sub)
  | false => exact s2 r s' Hf1 H1 L sr1 Q q1
theorem dt_w (h : DW c X e f1) : DT c X e f1 := let ⟨t, p, s⟩ := h.ex; ⟨t, p.pt, s⟩
theorem dt_not (h : DT c X a f1) : DT c X (.UnaryOp .Not a pos) (tNotD f1) := by
  obtain ⟨t, p, s⟩ := h.ex
  refine ⟨tNot t, pt_not p, fun r s' Hf H L sr Q q => ?_⟩
  exact s.run sr pstT q fun b Hf1 H1 x1 sr1 q1 => q1 Hf1 H1 (Ext.refl sr1.sub)
def onB {β : Type} (o : O) (k : Bool → Res β) : Res β := match o with
  | .fz (.bl b) => k b
  | _ => .bad
def eAnd (f g : FE) : FE := fun r => (f r).bind fun x => onB x.a fun b => if b then g r else .ok (.nw (.fz (.bl false)))
def eOr (f g : FE) : FE := fun r => (f r).bind fun x => onB x.a fun b => if b then .ok (.nw (.fz (.bl true))) else g r
def eNot (f : FE) : FE := fun r => (f r).bind fun x => onB x.a fun b => .ok (.nw (.fz (.bl (!b))))
theorem de_one {op} (h : DE c X a f) : DE c X (.BoolOp op [a] pos) f := let ⟨t, p, s⟩ := h.ex; ⟨t, pe_one p, s⟩
theorem bl_of {K : PySem.W.Frag} {Hf H : Hp} {o : O} {v : V} {c : Cn} {s : St} {Q : VK} {k : Bool → Res R} (h : RepV K Hf H o v)
    (q : PostE c K s Hf H Q (onB o k)) : ∃ b, v = .bl b ∧ PostE c K s Hf H Q (k b) := by
  cases o with
  | ls _ => exact q.elim
  | tp _ => exact q.elim
  | ob _ _ _ => exact q.elim
  | dt _ _ => exact q.elim
  | dk _ _ => exact q.elim
  | gh _ _ _ => exact q.elim
  | fz d =>
    cases d with
    | bl b => exact ⟨b, h, q⟩
    | non => exact q.elim
    | int i => exact q.elim
    | str i => exact q.elim
    | ex _ => exact q.elim
    | scr _ => exact q.elim
    | lst _ => exact q.elim
    | tup _ => exact q.elim
    | obj _ _ _ => exact q.elim
    | row _ _ => exact q.elim
    | dct _ _ => exact q.elim
    | dck _ _ => exact q.elim
theorem de_and (h1 : DE c X a f) (h2 : DE c X (.BoolOp .And (b :: rest) pos) g) : DE c X (.BoolOp .And (a :: b :: rest) pos) (eAnd f g) := by
  obtain ⟨t, p, s⟩ := h1.ex
  obtain ⟨u, p2, s2⟩ := h2.ex
  refine ⟨tAndV t u, pe_and p p2, fun r s' Hf H L sr Q q => ?_⟩
  refine s.run sr pstE q fun x v Hf1 H1 x1 sr1 a1 q1 => ?_
  obtain ⟨b, e, q2⟩ := bl_of (a1.a sr1.same0) q1
  refine ⟨b, e, ?_⟩
  cases b with
  | true => exact s2 r s' Hf1 H1 L sr1 Q q2
  | false => exact postE_fz sr1.sub q2 rfl
theorem de_or (h1 : DE c X a f) (h2 : DE c X (.BoolOp .Or (b :: rest) pos) g) : DE c X (.BoolOp .Or (a :: b :: rest) pos) (eOr f g) := by
  obtain ⟨t, p, s⟩ := h1.ex
  obtain ⟨u, p2, s2⟩ := h2.ex
  refine ⟨tOrV t u, pe_or p p2, fun r s' Hf H L sr Q q => ?_⟩
  refine s.run sr pstE q fun x v Hf1 H1 x1 sr1 a1 q1 => ?_
  obtain ⟨b, e, q2⟩ := bl_of (a1.a sr1.same0) q1
  refine ⟨b, e, ?_⟩
  cases b with
  | true => exact postE_fz sr1.sub q2 rfl
  | false => exact s2 r s' Hf1 H1 L sr1 Q q2
theorem de_not (h1 : DE c X a f) : DE c X (.UnaryOp .Not a pos) (eNot f) := by
  obtain ⟨t, p, s⟩ := h1.ex
  refine ⟨tNotV t, pe_not p, fun r s' Hf H L sr Q q => ?_⟩
  refine s.run sr pstE q fun x v Hf1 H1 x1 sr1 a1 q1 => ?_
  obtain ⟨b, e, q2⟩ := bl_of (a1.a sr1.same0) q1
  exact ⟨b, e, postE_fz sr1.sub q2 rfl⟩
def fzR (d : D) : Res R := .ok (.nw (.fz d))
def gInt (C : Int → Int → Bool) (h : Int → Int → D) : O → O → Res R
  | .fz (.int i), .fz (.int j) => if C i j then fzR (h i j) else .bad
  | _, _ => .bad
theorem int2 {K : PySem.W.Frag} {Hf H : Hp} {a b : O} {x y : V} {s : St} {Q : VK} {C : Int → Int → Bool} {h : Int → Int → D} (ha : RepV K Hf H a x) (hb : RepV K Hf H b y) (q : PostE c K s Hf H Q (gInt C h a b)) :
    ∃ i j, x = .int i ∧ y = .int j ∧ C i j = true ∧ PostE c K s Hf H Q (fzR (h i j)) := by
  cases a with
  | ls _ => exact q.elim
  | tp _ => exact q.elim
  | ob _ _ _ => exact q.elim
  | dt _ _ => exact q.elim
  | dk _ _ => exact q.elim
  | gh _ _ _ => exact q.elim
  | fz d =>
    cases d with
    | int i =>
      cases b with
      | ls _ => exact q.elim
      | tp _ => exact q.elim
      | ob _ _ _ => exact q.elim
      | dt _ _ => exact q.elim
      | dk _ _ => exact q.elim
      | gh _ _ _ => exact q.elim
      | fz d =>
        cases d with
        | int j =>
          refine ⟨i, j, ha, hb, ?_⟩
          simp only [gInt] at q
          by_cases hc : C i j = true
          · rw [if_pos hc] at q; exact ⟨hc, q⟩
          · rw [if_neg hc] at q; exact q.elim
        | _ => exact q.elim
    | _ => exact q.elim
theorem pure_I0 {K : PySem.W.Frag} {g : Int → Int → V} {h : Int → Int → D} (hh : ∀ i j H, Rep K H (h i j) (g i j)) : PureR K (rI0 g) (gInt (fun _ _ => true) h) := fun c s Hf H x y a b Q sub ha hb q => by
  obtain ⟨i, j, e1, e2, _, q⟩ := int2 ha hb q
  exact ⟨i, j, e1, e2, postE_fz sub q (hh i j Hf)⟩
theorem pure_I {K : PySem.W.Frag} {C : Int → Int → Bool} {C' : Int → Int → Prop} {g : Int → Int → V} {h : Int → Int → D} (hC : ∀ i j, C i j = true → C' i j) (hh : ∀ i j H, Rep K H (h i j) (g i j)) : PureR K (rI C' g) (gInt C h) := fun c s Hf H x y a b Q sub ha hb q => by
  obtain ⟨i, j, e1, e2, hc, q⟩ := int2 ha hb q
  exact ⟨i, j, e1, e2, hC i j hc, postE_fz sub q (hh i j Hf)⟩
def yes2 : Int → Int → Bool := fun _ _ => true
def gAdd := gInt yes2 fun i j => .int (i + j)
def gSub := gInt yes2 fun i j => .int (i - j)
def CMulH (i j : Int) : Prop := i.natAbs.log2 + j.natAbs.log2 < 100000000
theorem bits_log (x : Int) : Builtin.Int.intBits x ≤ x.natAbs.log2 + 1 := by
  unfold Builtin.Int.intBits
  split <;> omega
theorem CMulH.ok {i j : Int} (h : CMulH i j) : CMulX i j := by
  have a := bits_log i
  have b := bits_log j
  unfold CMulH at h
  unfold CMulX
  omega
theorem op_mulH : OpR X (binaryOp .Mult) (rI CMulH fun i j => .int (i * j)) := opI fun _ _ _ _ _ _ _ hc q => PyProof.Rows.mul_int q hc.ok.ok
def mulOk (i j : Int) : Bool := decide (i.natAbs.log2 + j.natAbs.log2 < 100000000)
def gMul := gInt mulOk fun i j => .int (i * j)
def divOk (_ j : Int) : Bool := decide (j ≠ 0 ∧ j.natAbs.log2 < 9000)
def gDiv := gInt divOk fun i j => .int (i.fdiv j)
def modOk (_ j : Int) : Bool := decide (j ≠ 0)
def gMod := gInt modOk fun i j => .int (i.fmod j)
def powOk (i j : Int) : Bool := decide (0 ≤ j ∧ j ≤ 1000000 ∧ i.natAbs < 2 ^ 64)
def gPow := gInt powOk fun i j => .int (i ^ j.toNat)
def gLt := gInt yes2 fun i j => .bl (decide (i < j))
def gLe := gInt yes2 fun i j => .bl (decide (i ≤ j))
def gGt := gInt yes2 fun i j => .bl (decide (j < i))
def gGe := gInt yes2 fun i j => .bl (decide (j ≤ i))
theorem op_fdivD : OpR X (binaryOp .FloorDiv) (rI (fun _ j => j ≠ 0 ∧ j.natAbs.log2 < 9000) fun i j => .int (i.fdiv j)) := opI fun _ _ _ _ _ _ _ hc q => PyProof.Rows.floordiv_int hc.1 q (.inl (PyProof.noPylong_of_log2 hc.2))
theorem de_sub (ha : DE c X a fa) (hb : DE c X b fb) : DE c X (.BinOp a .Sub b pos) (eOp gSub fa fb) := de_op op_sub (pure_I0 fun _ _ _ => rfl) ha hb
theorem de_fdiv (ha : DE c X a fa) (hb : DE c X b fb) : DE c X (.BinOp a .FloorDiv b pos) (eOp gDiv fa fb) := de_op op_fdivD (pure_I (fun i j h => of_decide_eq_true h) fun _ _ _ => rfl) ha hb
theorem de_mod (ha : DE c X a fa) (hb : DE c X b fb) : DE c X (.BinOp a .Mod b pos) (eOp gMod fa fb) := de_op op_modN (pure_I (fun i j h => of_decide_eq_true h) fun _ _ _ => rfl) ha hb
theorem de_pow (ha : DE c X a fa) (hb : DE c X b fb) : DE c X (.BinOp a .Pow b pos) (eOp gPow fa fb) := de_op op_pow (pure_I (fun i j h => by unfold CPow; exact of_decide_eq_true h) fun _ _ _ => rfl) ha hb
theorem pu_lt : PureR X.K (rI0 fun i j => .bl (decide (i < j))) gLt := pure_I0 fun _ _ _ => rfl
theorem pu_le : PureR X.K (rI0 fun i j => .bl (decide (i ≤ j))) gLe := pure_I0 fun _ _ _ => rfl
theorem pu_gt : PureR X.K (rI0 fun i j => .bl (decide (j < i))) gGt := pure_I0 fun _ _ _ => rfl
theorem pu_ge : PureR X.K (rI0 fun i j => .bl (decide (j ≤ i))) gGe := pure_I0 fun _ _ _ => rfl
theorem dt_lt (ha : DE c X a fa) (hb : DE c X b fb) : DT c X (.Compare a [.Lt] [b] pos) (tOf (eOp gLt fa fb)) := dt_cmp op_lt pu_lt ha hb (nomark _)
theorem dt_gt (ha : DE c X a fa) (hb : DE c X b fb) : DT c X (.Compare a [.Gt] [b] pos) (tOf (eOp gGt fa fb)) := dt_cmp op_gt pu_gt ha hb (nomark _)
theorem de_lt (ha : DE c X a fa) (hb : DE c X b fb) : DE c X (.Compare a [.Lt] [b] pos) (eOp gLt fa fb) := de_cmp op_lt pu_lt ha hb (nomark _)
theorem de_le (ha : DE c X a fa) (hb : DE c X b fb) : DE c X (.Compare a [.LtE] [b] pos) (eOp gLe fa fb) := de_cmp op_le pu_le ha hb (nomark _)
theorem de_gt (ha : DE c X a fa) (hb : DE c X b fb) : DE c X (.Compare a [.Gt] [b] pos) (eOp gGt fa fb) := de_cmp op_gt pu_gt ha hb (nomark _)
theorem de_ge (ha : DE c X a fa) (hb : DE c X b fb) : DE c X (.Compare a [.GtE] [b] pos) (eOp gGe fa fb) := de_cmp op_ge pu_ge ha hb (nomark _)
def eUn (g : O → Res R) (fa : FE) : FE := fun r => (fa r).bind fun x => g x.a
def gNeg : O → Res R
  | .fz (.int i) => fzR (.int (-i))
  | _ => .bad
theorem de_neg (ha : DE c X a fa) : DE c X (.UnaryOp .USub a pos) (eUn gNeg fa) := by
  obtain ⟨t, p, s⟩ := ha.ex
  refine ⟨tUn (rU fun i => .int (-i)) t, pe_un un_neg p, fun r s' Hf H L sr Q q => ?_⟩
  refine s.run sr pstE q fun x v Hf1 H1 x1 sr1 a1 q1 => ?_
  have a2 := a1.a sr1.same0
  revert q1 a2
  cases x.a with
  | ls _ => exact fun q _ => q.elim
  | tp _ => exact fun q _ => q.elim
  | ob _ _ _ => exact fun q _ => q.elim
  | dt _ _ => exact fun q _ => q.elim
  | dk _ _ => exact fun q _ => q.elim
  | gh _ _ _ => exact fun q _ => q.elim
  | fz d => cases d with
    | int i => exact fun q a2 => ⟨i, a2, postE_fz sr1.sub q rfl⟩
    | _ => exact fun q _ => q.elim
end DL
namespace DL
open PySem L2
variable {c : Cn} {X : Cx} {a b e : Expr} {es : List Expr} {f g fa fb : FE} {pos : Pos} {fs : Env → Res (List O)} {K : PySem.W.Frag} {H0 H H' Hf Hf' : Hp}
def aNil : Env → Res (List O) := fun _ => .ok []
def aCons (f : FE) (fs : Env → Res (List O)) : Env → Res (List O) := fun r => (f r).bind fun x => (fs r).bind fun xs => .ok (x.a :: xs)
theorem da_nil : DA c X [] aNil := ⟨tNil, pa_nil, fun r s Hf H L sr Q q => q [] Hf H (Ext.refl sr.sub) rfl⟩
theorem da_cons (h : DE c X e f) (hs : DA c X es fs) (hst : starEach (e :: es) X.env = (false, eval e X.env) :: starEach es X.env := by rfl) : DA c X (e :: es) (aCons f fs) := by
  obtain ⟨t, p, s⟩ := h.ex
  obtain ⟨ts, ps, ss⟩ := hs.ex
  refine ⟨tCons t ts, pa_cons p ps hst, fun r s' Hf H L sr Q q => ?_⟩
  refine s.run sr pstA q fun x v Hf1 H1 x1 sr1 a1 q1 => ?_
  refine ss.run sr1 pstA q1 fun os vs Hf2 H2 x2 sr2 a2 q2 => ?_
  exact q2 _ Hf2 H2 (Ext.refl sr2.sub) ⟨v, vs, rfl, (a1.mono x2.fsame x2.same).a sr2.same0, a2⟩
def eLst (fs : Env → Res (List O)) : FE := fun r => (fs r).bind fun os => if allFz os && decide (os.length ≤ 1000) then .ok (.nw (.ls os)) else .bad
theorem de_lst (h : DA c X es fs) : DE c X (.List es pos) (eLst fs) := by
  obtain ⟨t, p, s⟩ := h.ex
  refine ⟨tLst t, pe_lst p, fun r s' Hf H L sr Q q => ?_⟩
  refine s.run sr pstE q fun os vs Hf1 H1 x1 sr1 a1 q1 => ?_
  by_cases hc : (allFz os && decide (os.length ≤ 1000)) = true
  · rw [if_pos hc] at q1
    simp only [Bool.and_eq_true, decide_eq_true_eq] at hc
    exact ⟨by rw [RepVs.length a1]; exact Nat.le_trans hc.2 (by decide), fun p hp => postE_ls sr1.sub q1 hc.1 a1 hp⟩
  · rw [if_neg hc] at q1; exact q1.elim
def toDs : List O → Option (List D)
  | [] => some []
  | .fz d :: r => (toDs r).map (d :: ·)
  | _ :: _ => none
theorem toDs_rep : ∀ {os : List O} {ds : List D} {vs : List V}, toDs os = some ds → RepVs K Hf H os vs → Reps K Hf ds vs
  | [], ds, vs, e, h => by
    have e' : ([] : List D) = ds := Option.some.inj e
    subst e'; exact h
  | .fz d :: os, ds, vs, e, h => by
    obtain ⟨v, r, e1, h1, h2⟩ := h
    cases e2 : toDs os with
    | none => simp [toDs, e2] at e
    | some r' =>
      have e' : d :: r' = ds := by simpa [toDs, e2] using e
      subst e'
      exact ⟨v, r, e1, h1, toDs_rep e2 h2⟩
  | .ls _ :: _, _, _, e, _ => by cases e
  | .tp _ :: _, _, _, e, _ => by cases e
  | .ob _ _ _ :: _, _, _, e, _ => by cases e
  | .dt _ _ :: _, _, _, e, _ => by cases e
  | .dk _ _ :: _, _, _, e, _ => by cases e
def tupR (os : List O) : Res R := match toDs os with
  | some ds => if ds.length ≤ 1000 then .ok (.nw (.fz (.tup ds))) else .bad
  | none => .bad
def eTup (fs : Env → Res (List O)) : FE := fun r => (fs r).bind tupR
theorem de_tup {k} (h : DA c X es fs) : DE c X (.Tuple es k pos) (eTup fs) := by
  obtain ⟨t, p, s⟩ := h.ex
  refine ⟨tTup t, pe_tup p, fun r s' Hf H L sr Q q => ?_⟩
  refine s.run sr pstE q fun os vs Hf1 H1 x1 sr1 a1 q1 => ?_
  cases e : toDs os with
  | none => simp only [tupR, e] at q1; exact q1.elim
  | some ds =>
    simp only [tupR, e] at q1
    have a2 := toDs_rep e a1
    by_cases hc : ds.length ≤ 1000
    · rw [if_pos hc] at q1
      exact ⟨by rw [Reps.length a2]; exact Nat.le_trans hc (by decide), fun p hp => postE_tup sr1.sub q1 a2 hp⟩
    · rw [if_neg hc] at q1; exact q1.elim
def PureC (K : PySem.W.Frag) (rr : List V → Hp → VK → Prop) (g : List O → Res R) : Prop := ∀ (c : Cn) (s : St) (Hf H : Hp) (vs : List V) (os : List O) (Q : VK), Same Hf H → RepVs K Hf H os vs → PostE c K s Hf H Q (g os) → rr vs H Q
def eB (g : List O → Res R) (fs : Env → Res (List O)) : FE := fun r => (fs r).bind g
theorem so_B {rr : List V → Hp → VK → Prop} {g : List O → Res R} {t : TA} (hg : PureC K rr g) (h : SoA c K t fs) : SoE c K (tCB rr t) (eB g fs) := fun r s Hf H L sr Q q => by
  refine h.run sr pstE q fun os vs Hf1 H1 x1 sr1 a1 q1 => ?_
  exact hg c s Hf1 H1 vs os Q sr1.sub a1 q1
section
variable {x : Str} {p : Pos} {id : String} {rr : List V → Hp → VK → Prop} {gB : List O → Res R}
theorem de_B (hc : CallR X (.builtin id) rr) (hp : PureC X.K rr gB) (hg : Gl X x) (hm : X.mg x = none) (hv : bootBuiltins x = some (.builtin id)) (h : DA c X (e :: es) fs) (hn : x ≠ "__name__" := by decide) (hdb : (x == ("__debug__" : Str)) = false := by decide)
    (he : starEach (e :: es) X.env = (false, eval e X.env) :: starEach es X.env := by rfl) (hpl : (backTo pos (starEach es X.env)).any (·.1) = false := by rfl) : DE c X (.Call (.Name x p) (e :: es) [] pos) (eB gB fs) := by
  obtain ⟨t, pa, s⟩ := h.ex
  exact ⟨tCB rr t, pe_callB hc hg hm hv pa hn hdb he hpl, so_B hp s⟩
theorem de_Ty (hc : CallR X (.type id) rr) (hp : PureC X.K rr gB) (hg : Gl X x) (hm : X.mg x = none) (hv : bootBuiltins x = some (.type id)) (h : DA c X (e :: es) fs) (hn : x ≠ "__name__" := by decide) (hdb : (x == ("__debug__" : Str)) = false := by decide)
    (he : starEach (e :: es) X.env = (false, eval e X.env) :: starEach es X.env := by rfl) (hpl : (backTo pos (starEach es X.env)).any (·.1) = false := by rfl) : DE c X (.Call (.Name x p) (e :: es) [] pos) (eB gB fs) := by
  obtain ⟨t, pa, s⟩ := h.ex
  exact ⟨tCB rr t, pe_callTy hc hg hm hv pa hn hdb he hpl, so_B hp s⟩
end
def spD (K : PySem.W.Frag) (n : Nat) (F : List O → Res O) : Sp := fun vs H Q E => ∃ Hf os, Same Hf H ∧ Rows (tK K) Hf H ∧ RepVs K Hf H os vs ∧ os.length = n ∧ match F os with
  | .ok o => ∀ v Hf' H' L, Ext Hf H Hf' H' → RepO K Hf' H' o v L → Nw H Hf' H' L → Q v H'
  | .exc e => ∀ cls d Hf' H', Ext Hf H Hf' H' → EcR K e cls d Hf' → E cls d H'
  | .bad => False
structure Def (P : Program) (w : World) (K : PySem.W.Frag) (mg : Str → Option Value) (base : Heap) (x : Str) (k n : Nat) (F : List O → Res O) : Prop where
  ex : ∃ f fd ps, FnOk P w K mg base (L2.CX P w) k f fd ps (spD K n F) ∧ mg x = some (.ref f) ∧ PySem.W.keepIn K (.ref f) = true ∧ Binds K fd ps [] ∧ ps.length = n
structure Bk (c : Cn) (X : Cx) (k : Nat) : Prop where
  hr : Room k X.A
  tk : Takes X c.W
  po : PassesOwn (model X.prog X.w) X.A X.env X.xe
  calm : X.calm = true
def eCall (F : List O → Res O) (fs : Env → Res (List O)) : FE := fun r => (fs r).bind fun os => (F os).bind fun o => .ok (.nw o)
theorem de_call {x : Str} {p : Pos} {j k n : Nat} {F : List O → Res O} (G : Def X.prog X.w X.K X.mg X.base x j n F) (B : Bk c X k) (hj : j ≤ k) (hg : Gl X x) (h : DA c X (e :: es) fs) (hl : (e :: es).length = n)
    (hdb : (x == ("__debug__" : Str)) = false := by decide) (he : starEach (e :: es) X.env = (false, eval e X.env) :: starEach es X.env := by rfl) (hpl : (backTo pos (starEach es X.env)).any (·.1) = false := by rfl)
    (hlen : ∀ r os, fs r = .ok os → os.length = n) : DE c X (.Call (.Name x p) (e :: es) [] pos) (eCall F fs) := by
  obtain ⟨fa, fd, ps, Fo, hm, hk, hb, hn⟩ := G.ex
  obtain ⟨t, pa, s⟩ := h.ex
  refine ⟨tCallS (spD X.K n F) (WE c.W) t, pe_callS Fo (B.hr.mono hj) hg hm hk hb (fun σ => passAt B.tk σ) pa hdb he hpl, fun r s' Hf H L sr Q q => ?_⟩
  refine s r s' Hf H L sr _ ?_
  cases e0 : fs r with
  | bad => simp only [eCall, e0, Res.bind] at q; exact q.elim
  | exc e' => simp only [eCall, e0, Res.bind] at q; exact q
  | ok os =>
    simp only [eCall, e0, Res.bind] at q
    intro vs Hf1 H1 x1 a1
    refine ⟨Hf1, os, x1.sub, x1.rows sr.rows, a1, hlen r os e0, ?_⟩
    cases e1 : F os with
    | bad => rw [e1] at q; exact q.elim
    | exc e' =>
      rw [e1] at q
      exact fun cls d Hf2 H2 x2 h2 => q cls d Hf2 H2 (x1.trans x2) h2
    | ok o =>
      rw [e1] at q
      exact fun v Hf2 H2 L2 x2 h2 n2 => q v Hf2 H2 L2 (x1.trans x2) h2 (n2.mono x1.same)
def Ar (fs : Env → Res (List O)) (n : Nat) : Prop := ∀ r os, fs r = .ok os → os.length = n
theorem ar_nil : Ar aNil 0 := fun r os e => by cases e; rfl
theorem ar_cons {n : Nat} (h : Ar fs n) : Ar (aCons f fs) (n + 1) := fun r os e => by
  cases e1 : f r with
  | bad => simp [aCons, e1, Res.bind] at e
  | exc _ => simp [aCons, e1, Res.bind] at e
  | ok x =>
    cases e2 : fs r with
    | bad => simp [aCons, e1, e2, Res.bind] at e
    | exc _ => simp [aCons, e1, e2, Res.bind] at e
    | ok xs =>
      simp [aCons, e1, e2, Res.bind] at e
      subst e
      simp [h r xs e2]
def sSeq (f g : FS) : FS := fun r => match f r with
  | .nx r' => g r'
  | o => o
def sNil : FS := fun r => .nx r
variable {F G : FS} {st : Stmt} {sts : List Stmt}
theorem dss_nil : DSs c X [] sNil := ⟨tNext, pss_nil, fun r s Hf H L sr D q => q s Hf H L (Same.refl _) sr⟩
theorem so_seq {t u : TS} (h1 : SoS c K t F) (h2 : SoS c K u G) : SoS c K (tSeq t u) (sSeq F G) := fun r s Hf H L sr D q => by
  refine h1 r s Hf H L sr _ ?_
  cases e : F r with
  | nx r' =>
    simp only [sSeq, e] at q
    exact fun s1 Hf1 H1 L1 f1 sr1 => h2 r' s1 Hf1 H1 L1 sr1 D (q.mono f1)
  | bk r' => simp only [sSeq, e] at q; exact q
  | ct r' => simp only [sSeq, e] at q; exact q
  | ret o => simp only [sSeq, e] at q; exact q
  | exc e' r' => simp only [sSeq, e] at q; exact q
  | bad => simp only [sSeq, e] at q; exact q.elim
theorem dss_cons (h1 : DS c X st F) (h2 : DSs c X sts G) : DSs c X (st :: sts) (sSeq F G) := by
  obtain ⟨t, p, s⟩ := h1.ex
  obtain ⟨u, p2, s2⟩ := h2.ex
  exact ⟨tSeq t u, pss_cons p p2, so_seq s s2⟩
theorem dss_one (h1 : DS c X st F) : DSs c X [st] F := let ⟨t, p, s⟩ := h1.ex; ⟨t, pss_one p, s⟩
def sUse (f : FE) (k : R → Env → Out) : FS := fun r => match f r with
  | .ok x => k x r
  | .exc e => .exc e r
  | .bad => .bad
theorem SoE.use {t : TE} {r : Env} {s : St} {L : List Addr} (h : SoE c K t f) (sr : c.SR K r s Hf H L) {k : R → Env → Out} {D : Ends} (q : PostS c K Hf D (sUse f k r)) {Q : VK}
    (hq : ∀ x v Hf1 H1 L1, Ext Hf H Hf1 H1 → c.SR K r s Hf1 H1 L → ResR K c.H0 Hf1 H1 x v L1 → Nw H Hf1 H1 L1 → PostS c K Hf1 D (k x r) → Q v H1) : t s H Q := by
  refine h r s Hf H L sr Q ?_
  cases e : f r with
  | bad => simp only [sUse, e] at q; exact q.elim
  | exc e' =>
    simp only [sUse, e] at q
    exact fun cls d Hf1 H1 x1 h1 => q s cls d Hf1 H1 L x1.fsame (sr.mono x1) h1
  | ok x =>
    simp only [sUse, e] at q
    exact fun v Hf1 H1 L1 x1 a1 n1 => hq x v Hf1 H1 L1 x1 (sr.mono x1) a1 n1 (q.mono x1.fsame)
theorem SoT.use {t : TT} {ft : Env → Res Bool} {r : Env} {s : St} {L : List Addr} (h : SoT c K t ft) (sr : c.SR K r s Hf H L) {k : Bool → Env → Out} {D : Ends}
    (q : PostS c K Hf D (match ft r with | .ok b => k b r | .exc e => .exc e r | .bad => .bad)) {Q : Bool → Hp → Prop}
    (hq : ∀ b Hf1 H1, Ext Hf H Hf1 H1 → c.SR K r s Hf1 H1 L → PostS c K Hf1 D (k b r) → Q b H1) : t s H Q := by
  refine h r s Hf H L sr Q ?_
  cases e : ft r with
  | bad => simp only [e] at q; exact q.elim
  | exc e' =>
    simp only [e] at q
    exact fun cls d Hf1 H1 x1 h1 => q s cls d Hf1 H1 L x1.fsame (sr.mono x1) h1
  | ok x =>
    simp only [e] at q
    exact fun Hf1 H1 x1 => hq x Hf1 H1 x1 (sr.mono x1) (q.mono x1.fsame)
def put (own : Bool) : R → Option S
  | .nw o => some (.vl true (if own then o else .fz (er o)))
  | .vw _ => none
  | .bw o => some (.vl false o)
def setS (r : Env) (i : Nat) (x : Option S) : Out := match x with
  | some y => if i < r.length then .nx (r.set i y) else .bad
  | none => .bad
theorem SR.store {r : Env} {s : St} {L L1 : List Addr} {x : R} {v : V} {i : Nat} {own : Bool} {y : S} (sr : c.SR K r s Hf' H' L) (x1 : Ext Hf H Hf' H') (s0 : ∀ a, c.H0 a ≠ none → H a ≠ none) (hL : ∀ a ∈ L, H a ≠ none)
    (a1 : ResR K c.H0 Hf' H' x v L1) (n1 : Nw H Hf' H' L1) (hy : put own x = some y) (hi : i < r.length) : ∃ Hf2 L2, Same Hf' Hf2 ∧ c.SR K (r.set i y) (s.set i (some v)) Hf2 H' L2 := by
  obtain ⟨z, hz⟩ : ∃ z, r[i]? = some z := ⟨r[i], by simp [hi]⟩
  obtain ⟨w, A, M, B, h1, h2, h3, h4⟩ := sr.env.at hz
  have dis : ∀ a ∈ L1, a ∉ L := fun a ha hb => hL a hb (n1.fr a ha).1
  have nd2 : (A ++ B).Nodup := by
    have := sr.nd
    rw [h2] at this
    simp only [List.nodup_append, List.mem_append] at this ⊢
    obtain ⟨⟨n1, n2, n3⟩, n4, n5⟩ := this
    exact ⟨n1, n4, fun a ha b hb => n5 a (.inl ha) b hb⟩
  have sub2 : ∀ a ∈ A ++ B, a ∈ L := fun a ha => by
    rw [h2]; simp only [List.mem_append] at ha ⊢
    rcases ha with ha | ha
    · exact .inl (.inl ha)
    · exact .inr ha
  have key : ∀ (M' : List Addr) (Hf2 : Hp), Same Hf' Hf2 → SlotR K Hf2 c.H0 H' y (some v) M' → (∀ a ∈ M', a ∈ L1) → M'.Nodup → (∀ a ∈ M', Hf2 a = none) → (∀ a ∈ L, Hf2 a = none) → Ext c.Hf0 c.H0 Hf2 H' → Rows (tK K) Hf2 H' → c.SR K (r.set i y) (s.set i (some v)) Hf2 H' (A ++ M' ++ B) := fun M' Hf2 f q m1 m2 m3 m4 m5 m6 => by
    refine ⟨m5, h4 Hf2 H' y (some v) M' f Tst.rf (fun _ _ _ e => e) q, ?_, fun a ha => ?_, fun a ha => ?_, m6⟩
    · simp only [List.nodup_append, List.mem_append] at nd2 ⊢
      obtain ⟨n1', n2', n3'⟩ := nd2
      refine ⟨⟨n1', m2, fun a ha b hb e => ?_⟩, n2', fun a ha b hb e => ?_⟩
      · subst e; exact dis a (m1 a hb) (sub2 a (by simp [ha]))
      · subst e
        rcases ha with ha | ha
        · exact n3' a ha a hb rfl
        · exact dis a (m1 a ha) (sub2 a (by simp [hb]))
    · simp only [List.mem_append] at ha
      rcases ha with (ha | ha) | ha
      · exact ⟨m4 a (sub2 a (by simp [ha])), (sr.fr a (sub2 a (by simp [ha]))).2⟩
      · refine ⟨m3 a ha, ?_⟩
        cases e : c.H0 a with
        | none => rfl
        | some o => exact absurd (n1.fr a (m1 a ha)).1 (s0 a (by rw [e]; simp))
      · exact ⟨m4 a (sub2 a (by simp [ha])), (sr.fr a (sub2 a (by simp [ha]))).2⟩
    · simp only [List.mem_append] at ha
      rcases ha with (ha | ha) | ha
      · exact sr.ok a (sub2 a (by simp [ha]))
      · exact (n1.fr a (m1 a ha)).2.2
      · exact sr.ok a (sub2 a (by simp [ha]))
  cases x with
  | nw o =>
    cases own with
    | true =>
      simp only [put, if_true, Option.some.injEq] at hy
      subst hy
      exact ⟨Hf', _, Same.refl _, key L1 Hf' (Same.refl _) a1 (fun _ h => h) n1.nd (fun a ha => (n1.fr a ha).2.1) (fun a ha => (sr.fr a ha).1) sr.ext sr.rows⟩
    | false =>
      simp only [put, Bool.false_eq_true, if_false, Option.some.injEq] at hy
      subst hy
      have f := addF_nw n1
      refine ⟨addF Hf' H' L1, _, f, key [] _ f ⟨RepO.frozen _ f o v L1 (fun a ha => addF_in ha) a1, rfl⟩ (fun _ h => nomatch h) List.nodup_nil (fun _ h => nomatch h) (fun a ha => ?_) ?_ (sr.rows.add a1.nq.1 a1.nq.2 fun a ha => (n1.fr a ha).2.1)⟩
      · rw [addF_out fun hb => dis a hb ha]; exact (sr.fr a ha).1
      · have x2 := sr.ext
        refine ⟨x2.same, x2.fsame.trans f, addF_sub x2.sub, fun a h1 h2 => ?_, fun h => (x2.rows h).add a1.nq.1 a1.nq.2 fun a ha => (n1.fr a ha).2.1⟩
        by_cases ha : a ∈ L1
        · exact absurd (n1.fr a ha).1 (s0 a h1)
        · rw [addF_out ha] at h2; exact x2.keep a h1 h2
  | vw o => cases hy
  | bw o =>
    simp only [put, Option.some.injEq] at hy
    subst hy
    exact ⟨Hf', _, Same.refl _, key [] Hf' (Same.refl _) ⟨a1.1, rfl⟩ (fun _ h => nomatch h) List.nodup_nil (fun _ h => nomatch h) (fun a ha => (sr.fr a ha).1) sr.ext sr.rows⟩
end DL
namespace DL
open PySem L2
variable {c : Cn} {X : Cx} {a b e : Expr} {es : List Expr} {f g fa fb : FE} {pos : Pos} {fs : Env → Res (List O)} {K : PySem.W.Frag} {H0 H H' Hf Hf' : Hp} {F G : FS} {st : Stmt} {sts : List Stmt} {ft : Env → Res Bool}
def sSet (i : Nat) (own : Bool) (f : FE) : FS := sUse f fun x r => setS r i (put own x)
theorem so_set {t : TE} {i : Nat} {own : Bool} (h : SoE c K t f) : SoS c K (tAsg t (gName i)) (sSet i own f) := fun r s Hf H L sr D q => by
  refine h.use sr q fun x v Hf1 H1 L1 x1 sr1 a1 n1 q1 => ?_
  cases e : put own x with
  | none => rw [e] at q1; exact q1.elim
  | some y =>
    rw [e] at q1
    by_cases hi : i < r.length
    · simp only [setS, if_pos hi] at q1
      obtain ⟨Hf2, L2, f2, sr2⟩ := sr1.store x1 (fun _ => sr.ext.same.ne_none) sr.ok a1 n1 e hi
      exact q1 _ _ _ _ f2 sr2
    · simp only [setS, if_neg hi] at q1; exact q1.elim
theorem ds_set {i : Nat} {x : Str} {pos' : Pos} (own : Bool) (hN : X.N.Nodup) (hi : X.N[i]? = some x) (hx : Loc X.env.scope x) (h : DE c X e f) (hs : swapsWith e (some (.Name x pos')) pos.line X.env = pure false := by rfl)
    (hf : X.fn x = true ∨ X.env.scope.names.lookup x = some .local := by first | exact .inl rfl | exact .inr rfl | assumption) : DS c X (.Assign [.Name x pos'] e pos) (sSet i own f) := by
  obtain ⟨t, p, s⟩ := h.ex
  exact ⟨tAsg t (gName i), ps_set hN hi hx p hs hf, so_set s⟩
def retR : R → Out
  | .nw o => .ret o
  | _ => .bad
def sRet (f : FE) : FS := sUse f fun x _ => retR x
theorem ds_ret (h : DE c X e f) : DS c X (.Return (some e) pos) (sRet f) := by
  obtain ⟨t, p, s⟩ := h.ex
  refine ⟨tRet t, ps_ret p, fun r s' Hf H L sr D q => ?_⟩
  refine s.use sr q fun x v Hf1 H1 L1 x1 sr1 a1 n1 q1 => ?_
  cases x with
  | nw o => exact q1 v Hf1 H1 L1 (Same.refl _) sr1.ext a1 (n1.mono sr.ext.same)
  | vw _ => exact q1.elim
  | bw _ => exact q1.elim
def sRetV (i : Nat) : FS := fun r => match r[i]? with
  | some (.vl true o) => .ret o
  | _ => .bad
theorem ds_retV {i : Nat} (h : PE X e (tVar i)) : DS c X (.Return (some e) pos) (sRetV i) := by
  refine ⟨tRet (tVar i), ps_ret h, fun r s Hf H L sr D q => ?_⟩
  cases er1 : r[i]? with
  | none => simp only [sRetV, er1] at q; exact q.elim
  | some x =>
    cases x with
    | un => simp only [sRetV, er1] at q; exact q.elim
    | me _ _ => simp only [sRetV, er1] at q; exact q.elim
    | tq _ => simp only [sRetV, er1] at q; exact q.elim
    | lt _ _ => simp only [sRetV, er1] at q; exact q.elim
    | fa _ => simp only [sRetV, er1] at q; exact q.elim
    | vl w o =>
      cases w with
      | false => simp only [sRetV, er1] at q; exact q.elim
      | true =>
        simp only [sRetV, er1] at q
        obtain ⟨y, L1, M, L2, h1, h2, h3, _⟩ := sr.env.at er1
        cases y with
        | none => exact h3.elim
        | some v =>
          refine ⟨v, h1, q v Hf H M (Same.refl _) sr.ext h3 ⟨?_, fun a ha => ?_⟩⟩
          · have := sr.nd
            rw [h2] at this
            simp only [List.nodup_append] at this
            exact this.1.2.1
          · have ha' : a ∈ L := by rw [h2]; simp [ha]
            exact ⟨(sr.fr a ha').2, (sr.fr a ha').1, sr.ok a ha'⟩
def sIf (ft : Env → Res Bool) (F G : FS) : FS := fun r => match ft r with
  | .ok b => if b then F r else G r
  | .exc e => .exc e r
  | .bad => .bad
theorem ds_if {t : Expr} {xs ys : List Stmt} (h : DT c X t ft) (h1 : DSs c X xs F) (h2 : DSs c X ys G) : DS c X (.If t xs ys pos) (sIf ft F G) := by
  obtain ⟨tt, p, s⟩ := h.ex
  obtain ⟨u, p1, s1⟩ := h1.ex
  obtain ⟨w, p2, s2⟩ := h2.ex
  refine ⟨tIfS tt u w, ps_if p p1 p2, fun r s' Hf H L sr D q => ?_⟩
  refine s.use (k := fun b r => if b then F r else G r) sr q fun b Hf1 H1 x1 sr1 q1 => ?_
  cases b with
  | true => exact s1 r s' Hf1 H1 L sr1 D q1
  | false => exact s2 r s' Hf1 H1 L sr1 D q1
def sDrop (f : FE) : FS := sUse f fun _ r => .nx r
theorem SR.slot {r : Env} {s : St} {L : List Addr} {i : Nat} {w : Bool} {o : O} (sr : c.SR K r s Hf H L) (e : r[i]? = some (.vl w o)) : ∃ v, s[i]? = some (some v) ∧ RepV K Hf H o v := by
  obtain ⟨z, L1, M, L2, h1, h2', h3, _⟩ := sr.env.at e
  cases z with
  | none => cases w <;> exact h3.elim
  | some v =>
    cases w with
    | true => exact ⟨v, h1, RepO.view o v M h3⟩
    | false => exact ⟨v, h1, RepV.mono (Same.refl _) sr.ext.same o v h3.1⟩
def sAug (i : Nat) (g : O → O → Res R) (f : FE) : FS := fun r => match r[i]? with
  | some (.vl _ o) => sUse f (fun x r => match g o x.a with
    | .ok z => setS r i (put false z)
    | _ => .bad) r
  | _ => .bad
theorem fz_new {d : D} {v : V} (h : Rep K Hf d v) : ResR K H0 Hf H (.nw (.fz d)) v [] := ⟨h, rfl⟩
theorem nw_nil {Hf' H' : Hp} : Nw H Hf' H' [] := ⟨List.nodup_nil, fun _ h => nomatch h⟩
theorem gInt_ok {C : Int → Int → Bool} {h : Int → Int → D} {a b : O} {z : R} (e : gInt C h a b = .ok z) : ∃ i j, a = .fz (.int i) ∧ b = .fz (.int j) ∧ C i j = true ∧ z = .nw (.fz (h i j)) := by
  cases a with
  | ls _ => cases e
  | tp _ => cases e
  | ob _ _ _ => cases e
  | dt _ _ => cases e
  | dk _ _ => cases e
  | gh _ _ _ => cases e
  | fz d => cases d with
    | int i => cases b with
      | ls _ => cases e
      | tp _ => cases e
      | ob _ _ _ => cases e
      | dt _ _ => cases e
      | dk _ _ => cases e
      | gh _ _ _ => cases e
      | fz d => cases d with
        | int j =>
          simp only [gInt] at e
          by_cases hc : C i j = true
          · rw [if_pos hc] at e; cases e; exact ⟨i, j, rfl, rfl, hc, rfl⟩
          · rw [if_neg hc] at e; cases e
        | _ => cases e
    | _ => cases e
theorem SR.write {r : Env} {s : St} {L : List Addr} {i : Nat} {os : List O} (sr : c.SR K r s Hf H L) (e : r[i]? = some (.vl true (.ls os))) :
    ∃ p vs, s[i]? = some (some (.ref p)) ∧ H p = some (.lst vs) ∧ RepVs K Hf H os vs ∧ (∃ M, RepOs K Hf H os vs M) ∧ Hf p = none ∧ p ∈ L ∧
      (allFz os = true → ∀ Hf1 H1 os' vs', Ext Hf H Hf1 H1 → allFz os' = true → RepVs K Hf1 H1 os' vs' → ∃ L', c.SR K (r.set i (.vl true (.ls os'))) s Hf1 (upd H1 p (.lst vs')) L') := by
  obtain ⟨z, L1, M, L2, h1, h2, h3, h4⟩ := sr.env.at e
  cases z with
  | none => exact h3.elim
  | some v =>
    obtain ⟨p, vs, M', e1, e2, e3, e4⟩ := h3
    subst e1 e4
    have hpL : p ∈ L := by rw [h2]; simp
    refine ⟨p, vs, h1, e2, RepOs.view os vs M' e3, ⟨M', e3⟩, (sr.fr p hpL).1, hpL, fun hall Hf1 H1 os' vs' x1 hall' rv' => ?_⟩
    have sr1 := sr.mono x1
    have pn : ∀ a ∈ L1 ++ L2, a ≠ p := fun a ha e => by
      subst e
      have nd := sr.nd
      rw [h2] at nd
      simp only [List.nodup_append, List.mem_append, List.nodup_cons, List.mem_cons] at nd ha
      obtain ⟨⟨_, _, d1⟩, _, d2⟩ := nd
      rcases ha with ha | ha
      · exact d1 a ha a (.inl rfl) rfl
      · exact d2 a (.inr (.inl rfl)) a ha rfl
    have env' := h4 Hf1 (upd H1 p (.lst vs')) (.vl true (.ls os')) (some (.ref p)) [p] x1.fsame (Tst.su x1.same e2 fun _ z => nomatch z) (fun a ha u q => by rw [upd_ne (pn a ha)]; exact sr.env.nx.kp x1.same a (by rw [h2]; simp only [List.mem_append] at ha ⊢; rcases ha with ha | ha; exact .inl (.inl ha); exact .inr ha) u q)
      ⟨p, vs', [], rfl, upd_same, repVs_O hall' rv', rfl⟩
    have es : s.set i (some (V.ref p)) = s := by
      obtain ⟨hl, hg⟩ := List.getElem?_eq_some_iff.mp h1
      rw [← hg]; exact List.set_getElem_self hl
    rw [es] at env'
    have hpf := (sr1.fr p hpL).1
    have hp0 := (sr.fr p hpL).2
    have sub' : ∀ a ∈ L1 ++ [p] ++ L2, a ∈ L := fun a ha => by
      rw [h2]; simp only [List.mem_append, List.mem_cons, List.mem_singleton, List.not_mem_nil, or_false] at ha ⊢
      rcases ha with (ha | ha) | ha
      · exact .inl (.inl ha)
      · exact .inl (.inr (.inl ha))
      · exact .inr ha
    refine ⟨L1 ++ [p] ++ L2, ⟨?_, ?_, ?_, ?_, fun h => (sr1.ext.rows h).set (x1.same.lst e2) (Hk.ne rfl)⟩, env', ?_, fun a ha => ⟨(sr1.fr a (sub' a ha)).1, (sr1.fr a (sub' a ha)).2⟩, fun a ha => ?_, sr1.rows.set (x1.same.lst e2) (Hk.ne rfl)⟩
    · exact fun a u q => by rw [upd_ne (ne_of_none q hp0)]; exact sr1.ext.same a u q
    · exact sr1.ext.fsame
    · exact fun a u q => by rw [upd_ne (ne_of_none q hpf)]; exact sr1.ext.sub a u q
    · exact sr1.ext.keep
    · have nd := sr.nd
      rw [h2] at nd
      simp only [List.nodup_append, List.mem_append, List.nodup_cons, List.mem_cons] at nd
      obtain ⟨⟨n1, n2, d1⟩, n3, d2⟩ := nd
      simp only [List.nodup_append, List.mem_append, List.nodup_cons, List.mem_cons, List.mem_singleton, List.not_mem_nil, or_false]
      refine ⟨⟨n1, ⟨by simp, List.nodup_nil⟩, fun a ha b hb e => ?_⟩, n3, fun a ha b hb e => ?_⟩
      · subst hb; exact d1 a ha b (.inl rfl) e
      · rcases ha with ha | ha
        · exact d2 a (.inl ha) b hb e
        · exact d2 a (.inr (.inl ha)) b hb e
    · by_cases hp : a = p
      · subst hp; rw [upd_same]; simp
      · rw [upd_ne hp]; exact sr1.ok a (sub' a ha)
theorem RepVs.append : ∀ {os ps : List O} {vs ws : List V}, RepVs K Hf H os vs → RepVs K Hf H ps ws → RepVs K Hf H (os ++ ps) (vs ++ ws)
  | [], _, _, _, h, h2 => by have h' : _ = _ := h; subst h'; exact h2
  | o :: os, _, _, _, h, h2 => by
    obtain ⟨v, r, e, h3, h4⟩ := h
    subst e
    exact ⟨v, _, rfl, h3, RepVs.append h4 h2⟩
theorem RepVs.set : ∀ {os : List O} {vs : List V} {i : Nat} {o : O} {v : V}, RepVs K Hf H os vs → RepV K Hf H o v → RepVs K Hf H (os.set i o) (vs.set i v)
  | [], _, _, _, _, h, _ => by have h' : _ = _ := h; subst h'; rfl
  | x :: os, _, 0, _, _, h, h2 => by
    obtain ⟨v, r, e, h3, h4⟩ := h
    subst e
    exact ⟨_, r, rfl, h2, h4⟩
  | x :: os, _, i + 1, _, _, h, h2 => by
    obtain ⟨v, r, e, h3, h4⟩ := h
    subst e
    exact ⟨v, _, rfl, h3, RepVs.set h4 h2⟩
theorem RepVs.dropLast : ∀ {os : List O} {vs : List V}, RepVs K Hf H os vs → RepVs K Hf H os.dropLast vs.dropLast
  | [], _, h => by have h' : _ = _ := h; subst h'; rfl
  | [x], _, h => by
    obtain ⟨v, r, e, h3, h4⟩ := h
    have h' : r = [] := h4
    subst h'
    subst e
    rfl
  | x :: y :: os, _, h => by
    obtain ⟨v, r, e, h3, v2, r2, e2, h5, h6⟩ := h
    subst e2 e
    exact ⟨v, _, rfl, h3, RepVs.dropLast (os := y :: os) ⟨v2, r2, rfl, h5, h6⟩⟩
theorem allFz_append : ∀ {os ps : List O}, allFz (os ++ ps) = (allFz os && allFz ps)
  | [], _ => by simp [allFz]
  | .fz _ :: os, _ => by simp [allFz, allFz_append]
  | .ls _ :: os, _ => by simp [allFz]
  | .tp _ :: os, _ => by simp [allFz]
  | .ob _ _ _ :: os, _ => by simp [allFz]
  | .dt _ _ :: os, _ => by simp [allFz]
  | .dk _ _ :: os, _ => by simp [allFz]
  | .gh _ _ _ :: os, _ => by simp [allFz]
def onOwn (i : Nat) (r : Env) (k : List O → Out) : Out := match r[i]? with
  | some (.vl true (.ls os)) => if allFz os then k os else .bad
  | _ => .bad
theorem onOwn_of {i : Nat} {r : Env} {k : List O → Out} {D : Ends} {G : Hp} (q : PostS c K G D (onOwn i r k)) : ∃ os, r[i]? = some (.vl true (.ls os)) ∧ allFz os = true ∧ PostS c K G D (k os) := by
  unfold onOwn at q
  split at q
  · rename_i os e
    by_cases h : allFz os = true
    · rw [if_pos h] at q; exact ⟨os, e, h, q⟩
    · rw [if_neg h] at q; exact q.elim
  · exact q.elim
def sApp (i : Nat) (f : FE) : FS := fun r => onOwn i r fun os => sUse f (fun x r => match x.a with
    | .fz d => if os.length ≤ 100000 then .nx (r.set i (.vl true (.ls (os ++ [.fz d])))) else .bad
    | _ => .bad) r
theorem ds_app {i : Nat} {o : Expr} {apos : Pos} {cpos : Pos} (hv : PE X o (tVar i)) (h : DE c X e f)
    (hbase : attributeBase o "append" X.env (eval o X.env) = eval o X.env := by rfl)
    (hfew : ((backTo cpos (starEach [e] X.env)).all (fun x => !x.1) && (backToKw cpos (keywordEach [] X.env)).all (fun x => x.1.isSome)
      && decide (([e] : List Expr).length + ([] : List Keyword).length + (if ([] : List Keyword).isEmpty then 0 else 1) < 30)) = true := by rfl)
    (hline : (apos.endLine == cpos.line) = true := by rfl) (hs : starEach [e] X.env = (false, eval e X.env) :: starEach [] X.env := by rfl) (hplain : (backTo cpos (starEach [] X.env)).any (·.1) = false := by rfl)
    (hsw : swapsWith (.Call (.Attribute o "append" apos) [e] [] cpos) none pos.line X.env = pure false := by rfl) : DS c X (.Expr (.Call (.Attribute o "append" apos) [e] [] cpos) pos) (sApp i f) := by
  obtain ⟨t, p, s⟩ := h.ex
  refine ⟨_, ps_expr (pe_bm PySem.F.plainAttrs_list PySem.F.slot_list_append PySem.F.type_list_append mt_append hv (pa_cons p pa_nil hs) hbase hfew hline hs hplain) hsw, fun r s' Hf H L sr D q => ?_⟩
  obtain ⟨os, eo, hall, q1⟩ := onOwn_of q
  obtain ⟨p, vs, h1, h2, h3, _, h4, h5, h6⟩ := sr.write eo
  refine ⟨_, h1, .inl ⟨rfl, vs, SqL.of h2⟩, ?_⟩
  refine s.use sr q1 fun x u Hf1 H1 L1 x1 sr1 a1 n1 q2 => ?_
  have a2 := (a1.argR n1).a sr1.same0
  have x2 := x1.add n1 a1.nq
  cases ex : x.a with
  | ls _ => simp only [ex] at q2; exact q2.elim
  | tp _ => simp only [ex] at q2; exact q2.elim
  | ob _ _ _ => simp only [ex] at q2; exact q2.elim
  | dt _ _ => simp only [ex] at q2; exact q2.elim
  | dk _ _ => simp only [ex] at q2; exact q2.elim
  | gh _ _ _ => simp only [ex] at q2; exact q2.elim
  | fz d =>
    simp only [ex] at q2
    rw [ex] at a2
    by_cases hl : os.length ≤ 100000
    · rw [if_pos hl] at q2
      have lv : vs.length = os.length := RepVs.length h3
      refine ⟨p, vs, u, rfl, rfl, x1.same.lst h2, Nat.lt_of_le_of_lt (show vs.length ≤ 100000 by omega) (by decide), ?_⟩
      obtain ⟨L', sr2⟩ := h6 hall (addF Hf1 H1 L1) H1 (os ++ [.fz d]) (vs ++ [u]) x2 (by rw [allFz_append, hall]; rfl) ((RepVs.mono x2.fsame x2.same os vs h3).append ⟨u, [], rfl, a2, rfl⟩)
      exact q2 _ _ _ _ (addF_nw n1) sr2
    · rw [if_neg hl] at q2; exact q2.elim
end DL
namespace DL
open PySem L2
variable {c : Cn} {X : Cx} {a b e : Expr} {es : List Expr} {f g fa fb : FE} {pos : Pos} {fs : Env → Res (List O)} {K : PySem.W.Frag} {H0 H H' Hf Hf' : Hp} {F G : FS} {st : Stmt} {sts : List Stmt} {ft : Env → Res Bool}
def whl (ft : Env → Res Bool) (F : FS) : Nat → Env → Out
  | 0, _ => .bad
  | n + 1, r => match ft r with
    | .ok true => (match F r with
      | .nx r' => whl ft F n r'
      | .ct r' => whl ft F n r'
      | .bk r' => .nx r'
      | o => o)
    | .ok false => .nx r
    | .exc e => .exc e r
    | .bad => .bad
def sWh (fuel : Env → Nat) (ft : Env → Res Bool) (F : FS) : FS := fun r => whl ft F (fuel r) r
theorem so_wh {tt : TT} {tb : TS} {fuel : Env → Nat} (h : SoT c K tt ft) (hb : SoS c K tb F) : SoS c K (tWhile tt tb) (sWh fuel ft F) := fun r s Hf0 H L sr D q => by
  refine ⟨fun m s H => ∃ r Hf L, c.SR K r s Hf H L ∧ PostS c K Hf D (whl ft F m r), ⟨fuel r, r, Hf0, L, sr, q⟩, ?_⟩
  rintro m s H ⟨r, Hf, L, sr, q⟩
  cases m with
  | zero => exact q.elim
  | succ m =>
    have q' : PostS c K Hf D (match ft r with
      | .ok b => (fun (b : Bool) (r : Env) => if b then (match F r with
        | .nx r' => whl ft F m r'
        | .ct r' => whl ft F m r'
        | .bk r' => .nx r'
        | o => o) else .nx r) b r
      | .exc e => .exc e r
      | .bad => .bad) := by
      unfold whl at q
      cases e : ft r with
      | ok b => rw [e] at q; cases b <;> exact q
      | exc _ => rw [e] at q; exact q
      | bad => rw [e] at q; exact q
    refine h.use (k := fun (b : Bool) (r : Env) => if b then (match F r with
        | .nx r' => whl ft F m r'
        | .ct r' => whl ft F m r'
        | .bk r' => .nx r'
        | o => o) else .nx r) sr q' fun b Hf1 H1 x1 sr1 q1 => ?_
    cases b with
    | false => exact q1 s Hf1 H1 L (Same.refl _) sr1
    | true =>
      refine ⟨fun s' H' => ∃ m', m' < m + 1 ∧ ∃ r Hf L, c.SR K r s' Hf H' L ∧ PostS c K Hf D (whl ft F m' r), fun _ _ h => h, ?_⟩
      have q2 : PostS c K Hf1 D (match F r with
        | .nx r' => whl ft F m r'
        | .ct r' => whl ft F m r'
        | .bk r' => .nx r'
        | o => o) := q1
      refine hb r s Hf1 H1 L sr1 _ ?_
      cases e : F r with
      | nx r' => rw [e] at q2; exact fun s2 Hf2 H2 L2 f2 sr2 => ⟨m, Nat.lt_succ_self m, r', Hf2, L2, sr2, q2.mono f2⟩
      | ct r' => rw [e] at q2; exact fun s2 Hf2 H2 L2 f2 sr2 => ⟨m, Nat.lt_succ_self m, r', Hf2, L2, sr2, q2.mono f2⟩
      | bk r' => rw [e] at q2; exact q2
      | ret o => rw [e] at q2; exact q2
      | exc e' r' => rw [e] at q2; exact q2
      | bad => rw [e] at q2; exact q2
theorem ds_wh {k : Nat} {t : Expr} (fuel : Env → Nat) (B : Bk c X k) (h : DT c X t ft) (hb : DSs c X sts F) : DS c X (.While t sts [] pos) (sWh fuel ft F) := by
  obtain ⟨tt, p, s⟩ := h.ex
  obtain ⟨tb, pb, sb⟩ := hb.ex
  exact ⟨tWhile tt tb, ps_while B.po p pb, so_wh s sb⟩
abbrev FG := R → Env → Option Env
def SoG (c : Cn) (K : PySem.W.Frag) (t : TG) (fg : FG) (vs : List Nat) : Prop := ∀ x v r r1 s Hf H L, c.SR K r s Hf H L → ArgR K c.H0 Hf H x v → fg x r = some r1 → ∀ Q : St → Hp → Prop,
  (∀ s1 L1, c.SR K r1 s1 Hf H L1 → wipe s1 vs = wipe s vs → Q s1 H) → t v s H Q
def gN (i : Nat) : FG := fun x r => match (match x with | .nw o => some (S.vl true (.fz (er o))) | .vw _ => none | .bw o => some (S.vl false o)) with
  | some y => if i < r.length then some (r.set i y) else none
  | none => none
theorem SR.storeA {r : Env} {s : St} {L : List Addr} {x : R} {v : V} {i : Nat} {r1 : Env} (sr : c.SR K r s Hf H L) (a1 : ArgR K c.H0 Hf H x v) (e : gN i x r = some r1) : ∃ L1, c.SR K r1 (s.set i (some v)) Hf H L1 := by
  have go : ∀ (x : R), ResR K c.H0 Hf H x v [] → ∀ y, put false x = some y → i < r.length → ∃ Hf2 L2, Same Hf Hf2 ∧ c.SR K (r.set i y) (s.set i (some v)) Hf2 H L2 := fun x a y hy hi =>
    sr.store (own := false) (Ext.refl sr.sub) (fun _ => sr.ext.same.ne_none) sr.ok a nw_nil hy hi
  cases x with
  | vw o => cases e
  | nw o =>
    simp only [gN] at e
    by_cases hi : i < r.length
    · rw [if_pos hi] at e
      cases e
      obtain ⟨z, hz⟩ : ∃ z, r[i]? = some z := ⟨r[i], by simp [hi]⟩
      obtain ⟨w, A, M, B, h1, h2, h3, h4⟩ := sr.env.at hz
      have sub2 : ∀ a ∈ A ++ [] ++ B, a ∈ L := fun a ha => by
        rw [h2]; simp only [List.mem_append, List.not_mem_nil, or_false] at ha ⊢
        rcases ha with ha | ha
        · exact .inl (.inl ha)
        · exact .inr ha
      refine ⟨A ++ [] ++ B, sr.ext, h4 Hf H _ _ [] (Same.refl _) Tst.rf (fun _ _ _ e => e) ⟨a1, rfl⟩, ?_, fun a ha => sr.fr a (sub2 a ha), fun a ha => sr.ok a (sub2 a ha), sr.rows⟩
      have nd := sr.nd
      rw [h2] at nd
      simp only [List.nodup_append, List.mem_append] at nd
      simp only [List.append_nil, List.nodup_append]
      obtain ⟨⟨n1, n2, d1⟩, n3, d2⟩ := nd
      exact ⟨n1, n3, fun a ha b hb => d2 a (.inl ha) b hb⟩
    · rw [if_neg hi] at e; cases e
  | bw o =>
    simp only [gN] at e
    by_cases hi : i < r.length
    · rw [if_pos hi] at e
      cases e
      obtain ⟨z, hz⟩ : ∃ z, r[i]? = some z := ⟨r[i], by simp [hi]⟩
      obtain ⟨w, A, M, B, h1, h2, h3, h4⟩ := sr.env.at hz
      have sub2 : ∀ a ∈ A ++ [] ++ B, a ∈ L := fun a ha => by
        rw [h2]; simp only [List.mem_append, List.not_mem_nil, or_false] at ha ⊢
        rcases ha with ha | ha
        · exact .inl (.inl ha)
        · exact .inr ha
      refine ⟨A ++ [] ++ B, sr.ext, h4 Hf H _ _ [] (Same.refl _) Tst.rf (fun _ _ _ e => e) ⟨a1, rfl⟩, ?_, fun a ha => sr.fr a (sub2 a ha), fun a ha => sr.ok a (sub2 a ha), sr.rows⟩
      have nd := sr.nd
      rw [h2] at nd
      simp only [List.nodup_append, List.mem_append] at nd
      simp only [List.append_nil, List.nodup_append]
      obtain ⟨⟨n1, n2, d1⟩, n3, d2⟩ := nd
      exact ⟨n1, n3, fun a ha b hb => d2 a (.inl ha) b hb⟩
    · rw [if_neg hi] at e; cases e
theorem wipe_set {s : St} {i : Nat} {v : Option V} : ∀ {vs : List Nat}, i ∈ vs → wipe (s.set i v) vs = wipe s vs
  | [], h => by simp at h
  | j :: vs, h => by
    show (wipe (s.set i v) vs).set j none = (wipe s vs).set j none
    by_cases hj : i ∈ vs
    · rw [wipe_set hj]
    · have e : i = j := by simpa [hj] using h
      subst e
      have key : ∀ {vs : List Nat} {s : St}, i ∉ vs → wipe (s.set i v) vs = (wipe s vs).set i v := by
        intro vs
        induction vs with
        | nil => intro s _; rfl
        | cons k vs ih =>
          intro s hk
          simp only [List.mem_cons, not_or] at hk
          show (wipe (s.set i v) vs).set k none = ((wipe s vs).set k none).set i v
          rw [ih hk.2, List.set_comm _ _ hk.1]
      rw [key hj, List.set_set]
theorem so_gN {i : Nat} {vs : List Nat} (h : i ∈ vs) : SoG c K (gName i) (gN i) vs := fun x v r r1 s Hf H L sr a1 e Q q => by
  obtain ⟨L1, sr1⟩ := sr.storeA a1 e
  exact q _ L1 sr1 (wipe_set h)
structure DG (c : Cn) (X : Cx) (tg : Expr) (fg : FG) (vs : List Nat) : Prop where
  ex : ∃ t, PG X tg t ∧ SoG c X.K t fg vs
theorem dg_name {i : Nat} {x : Str} {vs : List Nat} (hN : X.N.Nodup) (hi : X.N[i]? = some x) (hx : Loc X.env.scope x) (hv : i ∈ vs := by simp) (hf : X.fn x = true ∨ X.env.scope.names.lookup x = some .local := by first | exact .inl rfl | exact .inr rfl | assumption) : DG c X (.Name x pos) (gN i) vs :=
  ⟨gName i, pg_name hN hi hx hf, so_gN hv⟩
def gL : List FG → List D → Env → Option Env
  | [], [], r => some r
  | g :: gs, d :: ds, r => (g (.nw (.fz d)) r).bind fun r1 => gL gs ds r1
  | _, _, _ => none
def SoGs (c : Cn) (K : PySem.W.Frag) (t : TGs) (gs : List FG) (vs : List Nat) : Prop := ∀ ds ws r r1 s Hf H L, c.SR K r s Hf H L → Reps K Hf ds ws → gL gs ds r = some r1 → ∀ Q : St → Hp → Prop,
  (∀ s1 L1, c.SR K r1 s1 Hf H L1 → wipe s1 vs = wipe s vs → Q s1 H) → t ws s H Q
structure DGs (c : Cn) (X : Cx) (ts : List Expr) (gs : List FG) (vs : List Nat) : Prop where
  ex : ∃ t, PGs X ts t ∧ SoGs c X.K t gs vs
theorem dgs_nil {vs : List Nat} : DGs c X [] [] vs := ⟨gNil, pgs_nil, fun ds ws r r1 s Hf H L sr a e Q q => by
  cases ds with
  | nil =>
    have e' : r = r1 := Option.some.inj e
    subst e'
    exact ⟨a, q s L sr rfl⟩
  | cons d ds => cases e⟩
theorem dgs_cons {gs : List FG} {fg : FG} {vs : List Nat} (h1 : DG c X e fg vs) (h2 : DGs c X es gs vs) (ha : (assignEach (e :: es) X.env).map (·.2) = assign e X.env :: (assignEach es X.env).map (·.2) := by rfl) : DGs c X (e :: es) (fg :: gs) vs := by
  obtain ⟨t, p, s⟩ := h1.ex
  obtain ⟨u, p2, s2⟩ := h2.ex
  refine ⟨gCons t u, pgs_cons p p2 ha, fun ds ws r r1 s' Hf H L sr a e' Q q => ?_⟩
  cases ds with
  | nil => cases e'
  | cons d ds =>
    obtain ⟨v, w, e1, h1, h2⟩ := a
    cases e2 : fg (.nw (.fz d)) r with
    | none => simp [gL, e2] at e'
    | some r2 =>
      simp only [gL, e2, Option.bind_some] at e'
      refine ⟨v, w, e1, s (.nw (.fz d)) v r r2 s' Hf H L sr h1 e2 _ fun s1 L1 sr1 w1 => ?_⟩
      exact s2 ds w r2 r1 s1 Hf H L1 sr1 h2 e' Q fun s3 L3 sr3 w3 => q s3 L3 sr3 (w3.trans w1)
def gT (gs : List FG) : FG := fun x r => match x.a with
  | .fz (.tup ds) => gL gs ds r
  | _ => none
theorem gL_length : ∀ {gs : List FG} {ds : List D} {r r1 : Env}, gL gs ds r = some r1 → ds.length = gs.length
  | [], [], _, _, _ => rfl
  | [], _ :: _, _, _, e => by cases e
  | _ :: _, [], _, _, e => by cases e
  | g :: gs, d :: ds, r, r1, e => by
    cases e2 : g (.nw (.fz d)) r with
    | none => simp [gL, e2] at e
    | some r2 =>
      simp only [gL, e2, Option.bind_some] at e
      simp [gL_length e]
theorem dg_tup {gs : List FG} {vs : List Nat} {kk n : Nat} (hc : X.calm = true) (h : DGs c X es gs vs) (hg : gs.length = n := by rfl)
    (hn : (assignEach es X.env).length = n := by rfl) (hst : (assignEach es X.env).findIdx? (·.1) = none := by rfl) : DG c X (.Tuple es kk pos) (gT gs) vs := by
  obtain ⟨t, p, s⟩ := h.ex
  refine ⟨_, pg_tup hc p hn hst, fun x v r r1 s' Hf H L sr a1 e Q q => ?_⟩
  have a2 := a1.a sr.ext.same
  cases ex : x.a with
  | ls _ => simp [gT, ex] at e
  | tp _ => simp [gT, ex] at e
  | ob _ _ _ => simp [gT, ex] at e
  | dt _ _ => simp [gT, ex] at e
  | dk _ _ => simp [gT, ex] at e
  | gh _ _ _ => simp [gT, ex] at e
  | fz d =>
    cases d with
    | tup ds =>
      simp only [gT, ex] at e
      rw [ex] at a2
      obtain ⟨p', ws, e1, h1, h2⟩ := a2
      exact ⟨p', ws, e1, SqT.of (sr.sub _ _ h1), by rw [Reps.length h2, gL_length e, hg], s ds ws r r1 s' Hf H L sr h2 e Q q⟩
    | _ => simp [gT, ex] at e
def R.z : R → R
  | .nw o => .nw (.fz (er o))
  | .vw o => .vw o
  | .bw o => .bw o
def sAsgT (fg : FG) (f : FE) : FS := sUse f fun x r => match fg x.z r with
  | some r1 => .nx r1
  | none => .bad
theorem ds_asgT {tg : Expr} {fg : FG} {vs : List Nat} (hg : DG c X tg fg vs) (h : DE c X e f) (hs : swapsWithSole [tg] e pos.line X.env = pure false := by rfl) (hw : swappedStores [tg] e X.env = pure none := by rfl)
    (h1 : (assignEach [tg] X.env).map (·.2) = [assign tg X.env] := by rfl) : DS c X (.Assign [tg] e pos) (sAsgT fg f) := by
  obtain ⟨t, p, s⟩ := h.ex
  obtain ⟨u, p2, s2⟩ := hg.ex
  refine ⟨tAsg t u, ps_asg p p2 hs hw h1, fun r s' Hf H L sr D q => ?_⟩
  refine s.use sr q fun x v Hf1 H1 L1 x1 sr1 a1 n1 q1 => ?_
  have x2 := x1.add n1 a1.nq
  have sr2 := sr.mono x2
  have a2 := a1.argR n1
  have a3 : ArgR X.K c.H0 (addF Hf1 H1 L1) H1 x.z v := by
    cases x with
    | nw o => exact a2
    | vw o => exact a2
    | bw o => exact a2
  cases eg : fg x.z r with
  | none => rw [eg] at q1; exact q1.elim
  | some r1 =>
    rw [eg] at q1
    exact s2 _ v r r1 s' _ H1 L sr2 a3 eg _ fun s3 L3 sr3 _ => q1 _ _ _ _ (addF_nw n1) sr3
def Wk (K : PySem.W.Frag) (H0 Hf : Hp) (its : List R) (J : It) : Prop := ∀ Hf2 H2, Same Hf Hf2 → Same Hf2 H2 → Sm H0 H2 →
  (∀ i it, its[i]? = some it → J.go i H2 ∧ ∀ x H3, J.yld i H2 x H3 → ∃ Hf3, Ext Hf2 H2 Hf3 H3 ∧ ArgR K H0 Hf3 H3 it x) ∧ J.stop its.length H2
def PostI (c : Cn) (K : PySem.W.Frag) (s : St) (Hf H : Hp) (Q : It → Hp → Prop) : Res (List R) → Prop
  | .ok its => ∀ J Hf' H', Ext Hf H Hf' H' → Wk K c.H0 Hf' its J → Q J H'
  | .exc e => PostX c K s Hf H e
  | .bad => False
def SoI (c : Cn) (K : PySem.W.Frag) (t : TI) (fi : Env → Res (List R)) : Prop := ∀ r s Hf H L, c.SR K r s Hf H L → ∀ Q, PostI c K s Hf H Q (fi r) → t s H Q
structure DI (c : Cn) (X : Cx) (tg e : Expr) (fi : Env → Res (List R)) : Prop where
  ex : ∃ t, PI X tg e t ∧ SoI c X.K t fi
theorem pstI {s : St} {Q : It → Hp → Prop} : Pst c K s (fun Hf H z => PostI c K s Hf H Q z) where
  bad := fun _ _ h => h
  exc := fun _ _ _ h => h
  mono := fun Hf H Hf' H' z x h => by
    cases z with
    | ok r => exact fun v Hf2 H2 y q => h v Hf2 H2 (x.trans y) q
    | exc e => exact PostX.mono x h
    | bad => exact h
def itsL : R → Res (List R)
  | .nw o => (match items (.fz (er o)) with | some os => .ok (os.map .nw) | none => .bad)
  | .bw o => (match items o with | some os => .ok (os.map (see false)) | none => .bad)
  | .vw _ => .bad
theorem see_arg {H0 Hf H : Hp} {o : O} {v : V} (h : RepV K Hf H0 o v) : ArgR K H0 Hf H (see false o) v := by
  cases o with
  | fz d => exact h
  | ls os => exact h
  | tp os => exact h
  | ob _ _ _ => exact h
  | dt _ _ => exact h
  | dk _ _ => exact h
  | gh _ _ _ => exact h
theorem items_fz {d : D} {os : List O} (e : items (.fz d) = some os) : ∀ o ∈ os, ∃ d', o = .fz d' := by
  cases d with
  | lst ds =>
    have e' : ds.map O.fz = os := Option.some.inj e
    subst e'
    intro o ho
    obtain ⟨d, _, rfl⟩ := List.mem_map.mp ho
    exact ⟨d, rfl⟩
  | scr ns =>
    have e' : (ns.map fun n => O.fz (.int n)) = os := Option.some.inj e
    subst e'
    intro o ho
    obtain ⟨d, _, rfl⟩ := List.mem_map.mp ho
    exact ⟨_, rfl⟩
  | _ => cases e
theorem itsL_ok {x : R} {v : V} {its : List R} (s : Same Hf H) (s0 : Sm H0 H) (h : ArgR K H0 Hf H x v) (e : itsL x = .ok its) : ∃ (a : Addr) (vs : List V), v = .ref a ∧ vs.length = its.length ∧ SqL K H a vs ∧
    ∀ Hf2 H2, Same Hf Hf2 → Same Hf2 H2 → Sm H0 H2 → SqL K H2 a vs ∧ ∀ (i : Nat) (it : R), its[i]? = some it → ∃ w : V, vs[i]? = some w ∧ ArgR K H0 Hf2 H2 it w := by
  cases x with
  | vw o => cases e
  | nw o =>
    simp only [itsL] at e
    cases ei : items (.fz (er o)) with
    | none => rw [ei] at e; cases e
    | some os =>
      rw [ei] at e
      cases e
      have hfz := items_fz ei
      have h' : RepV K Hf Hf (.fz (er o)) v := h
      obtain ⟨a, vs, e1, h1, h2⟩ := items_rep (Same.refl Hf) h' ei
      refine ⟨a, vs, e1, by rw [RepVs.length h2]; simp, s.seq h1, fun Hf2 H2 f1 f2 f3 => ⟨(f1.trans f2).seq h1, fun i it hi => ?_⟩⟩
      rw [List.getElem?_map] at hi
      cases eo : os[i]? with
      | none => rw [eo] at hi; cases hi
      | some o' =>
        rw [eo] at hi
        cases hi
        obtain ⟨w, hw, rw'⟩ := RepVs.get h2 eo
        obtain ⟨d', rfl⟩ := hfz o' (List.mem_of_getElem? eo)
        exact ⟨w, hw, Rep.mono f1 _ _ rw'⟩
  | bw o =>
    simp only [itsL] at e
    cases ei : items o with
    | none => rw [ei] at e; cases e
    | some os =>
      rw [ei] at e
      cases e
      cases o with
      | tp _ => cases ei
      | ob _ _ _ => cases ei
      | dt _ _ => cases ei
      | dk _ _ => cases ei
      | gh _ _ _ => cases ei
      | ls os' =>
        have e' : os' = os := Option.some.inj ei
        subst e'
        obtain ⟨a, vs, e1, h1, h2⟩ := h
        refine ⟨a, vs, e1, by rw [RepVs.length h2]; simp, SqL.of (s0.lst h1), fun Hf2 H2 f1 f2 f3 => ⟨SqL.of (f3.lst h1), fun i it hi => ?_⟩⟩
        rw [List.getElem?_map] at hi
        cases eo : os'[i]? with
        | none => rw [eo] at hi; cases hi
        | some o' =>
          rw [eo] at hi
          cases hi
          obtain ⟨w, hw, rw'⟩ := RepVs.get h2 eo
          exact ⟨w, hw, see_arg (RepV.mono f1 (Sm.refl _) _ _ rw')⟩
      | fz d =>
        have hfz := items_fz ei
        have h' : RepV K Hf Hf (.fz d) v := h
        obtain ⟨a, vs, e1, h1, h2⟩ := items_rep (Same.refl Hf) h' ei
        refine ⟨a, vs, e1, by rw [RepVs.length h2]; simp, s.seq h1, fun Hf2 H2 f1 f2 f3 => ⟨(f1.trans f2).seq h1, fun i it hi => ?_⟩⟩
        rw [List.getElem?_map] at hi
        cases eo : os[i]? with
        | none => rw [eo] at hi; cases hi
        | some o' =>
          rw [eo] at hi
          cases hi
          obtain ⟨w, hw, rw'⟩ := RepVs.get h2 eo
          obtain ⟨d', rfl⟩ := hfz o' (List.mem_of_getElem? eo)
          exact ⟨w, hw, Rep.mono f1 _ _ rw'⟩
def iLst (f : FE) : Env → Res (List R) := fun r => (f r).bind itsL
theorem di_list {tg : Expr} (h : DE c X e f) : DI c X tg e (iLst f) := by
  obtain ⟨t, p, s⟩ := h.ex
  refine ⟨iList X.K t, pi_list p, fun r s' Hf H L sr Q q => ?_⟩
  refine s.run sr pstI q fun x v Hf1 H1 x1 sr1 a1 q1 => ?_
  cases e1 : itsL x with
  | bad => rw [e1] at q1; exact q1.elim
  | exc e' => exfalso; cases x <;> simp only [itsL] at e1 <;> (try split at e1) <;> cases e1
  | ok its =>
    rw [e1] at q1
    obtain ⟨a, vs, e2, hl, h1, h2⟩ := itsL_ok sr1.sub sr1.same0 a1 e1
    refine ⟨a, e2, ⟨vs, h1⟩, q1 (Itl X.K a) Hf1 H1 (Ext.refl sr1.sub) fun Hf2 H2 f1 f2 f3 => ?_⟩
    obtain ⟨g1, g2⟩ := h2 Hf2 H2 f1 f2 f3
    refine ⟨fun i it hi => ?_, ⟨vs, g1, by omega⟩⟩
    obtain ⟨w, hw, aw⟩ := g2 i it hi
    refine ⟨⟨vs, w, g1, hw⟩, fun x H3 ⟨eH, hx⟩ => ?_⟩
    subst eH
    have ew := hx vs g1
    rw [hw] at ew
    cases ew
    exact ⟨Hf2, Ext.refl f2, aw⟩
def intR (n : Int) : R := .nw (.fz (.int n))
def rngL (lo : Int) (n : Nat) : List R := (List.range n).map fun (k : Nat) => intR (lo + (k : Nat))
def small62 (i : Int) : Bool := decide (-(2 ^ 62) ≤ i ∧ i < 2 ^ 62)
def rng1 : List O → Res (List R)
  | [.fz (.int j)] => if small62 j then .ok (rngL 0 j.toNat) else .bad
  | _ => .bad
def rng2 : List O → Res (List R)
  | [.fz (.int i), .fz (.int j)] => if small62 i && small62 j then .ok (rngL i (j - i).toNat) else .bad
  | _ => .bad
def iRng (g : List O → Res (List R)) (fs : Env → Res (List O)) : Env → Res (List R) := fun r => (fs r).bind g
theorem wk_rng {lo : Int} {n : Nat} : Wk K H0 Hf (rngL lo n) (Itr lo n) := fun Hf2 H2 f1 f2 f3 => by
  refine ⟨fun i it hi => ?_, by show n ≤ (rngL lo n).length; simp [rngL]⟩
  have hlt : i < n := by
    have := (List.getElem?_eq_some_iff.mp hi).1
    simpa [rngL] using this
  refine ⟨hlt, fun x H3 ⟨eH, ex⟩ => ?_⟩
  subst eH ex
  have e : (rngL lo n)[i]? = some (intR (lo + (i : Nat))) := by simp [rngL, hlt]
  rw [e] at hi
  cases hi
  exact ⟨Hf2, Ext.refl f2, rfl⟩
theorem ints1 {os : List O} {vs : List V} {β : Type} {k : Int → Res β} {g : List O → Res β} (hg : ∀ os, g os = match os with | [.fz (.int j)] => k j | _ => .bad) (h : RepVs K Hf H os vs) : g os = .bad ∨ ∃ j, g os = k j ∧ vs = [.int j] := by
  rw [hg]
  split
  · rename_i j
    obtain ⟨v, r, e1, h1, h2⟩ := h
    have h2' : r = [] := h2
    have h1' : v = .int j := h1
    subst h2' h1' e1
    exact .inr ⟨j, rfl, rfl⟩
  · exact .inl rfl
theorem ints2 {os : List O} {vs : List V} {β : Type} {k : Int → Int → Res β} {g : List O → Res β} (hg : ∀ os, g os = match os with | [.fz (.int i), .fz (.int j)] => k i j | _ => .bad) (h : RepVs K Hf H os vs) : g os = .bad ∨ ∃ i j, g os = k i j ∧ vs = [.int i, .int j] := by
  rw [hg]
  split
  · rename_i i j
    obtain ⟨v, r, e1, h1, v2, r2, e2, h2, h3⟩ := h
    have h3' : r2 = [] := h3
    have h1' : v = .int i := h1
    have h2' : v2 = .int j := h2
    subst h3' h1' h2' e2 e1
    exact .inr ⟨i, j, rfl, rfl⟩
  · exact .inl rfl
theorem di_rng1 {tg e : Expr} {p pos : Pos} (hg : Gl X "range") (hm : X.mg "range" = none) (h : DA c X [e] fs) (hs : starEach [e] X.env = [(false, eval e X.env)] := by rfl) : DI c X tg (.Call (.Name "range" p) [e] [] pos) (iRng rng1 fs) := by
  obtain ⟨t, pa, s⟩ := h.ex
  refine ⟨iRng1 t, pi_range1 hg hm pa hs, fun r s' Hf H L sr Q q => ?_⟩
  refine s.run sr pstI q fun os vs Hf1 H1 x1 sr1 a1 q1 => ?_
  rcases ints1 (k := fun j => if small62 j then .ok (rngL 0 j.toNat) else .bad) (g := rng1) (fun os => by unfold rng1; rfl) a1 with e0 | ⟨j, e0, ev⟩
  · rw [e0] at q1; exact q1.elim
  · rw [e0] at q1
    by_cases hj : small62 j = true
    · rw [if_pos hj] at q1
      have hj' := of_decide_eq_true hj
      exact ⟨j, ev, hj'.1, hj'.2, q1 _ Hf1 H1 (Ext.refl sr1.sub) wk_rng⟩
    · rw [if_neg hj] at q1; exact q1.elim
theorem di_rng2 {tg e e2 : Expr} {p pos : Pos} (hg : Gl X "range") (hm : X.mg "range" = none) (h : DA c X [e, e2] fs) (hs : starEach [e, e2] X.env = [(false, eval e X.env), (false, eval e2 X.env)] := by rfl) (hs2 : starEach [e2] X.env = [(false, eval e2 X.env)] := by rfl) :
    DI c X tg (.Call (.Name "range" p) [e, e2] [] pos) (iRng rng2 fs) := by
  obtain ⟨t, pa, s⟩ := h.ex
  refine ⟨iRng2 t, pi_range2 hg hm pa hs hs2, fun r s' Hf H L sr Q q => ?_⟩
  refine s.run sr pstI q fun os vs Hf1 H1 x1 sr1 a1 q1 => ?_
  rcases ints2 (k := fun i j => if small62 i && small62 j then .ok (rngL i (j - i).toNat) else .bad) (g := rng2) (fun os => by unfold rng2; rfl) a1 with e0 | ⟨i, j, e0, ev⟩
  · rw [e0] at q1; exact q1.elim
  · rw [e0] at q1
    by_cases hj : (small62 i && small62 j) = true
    · rw [if_pos hj] at q1
      rw [Bool.and_eq_true] at hj
      have hi' := of_decide_eq_true hj.1
      have hj' := of_decide_eq_true hj.2
      exact ⟨i, j, ev, ⟨hi'.1, hi'.2, hj'.1, hj'.2⟩, q1 _ Hf1 H1 (Ext.refl sr1.sub) wk_rng⟩
    · rw [if_neg hj] at q1; exact q1.elim
def forL (fg : FG) (F : FS) : List R → Env → Out
  | [], r => .nx r
  | x :: xs, r => match fg x r with
    | none => .bad
    | some r1 => (match F r1 with
      | .nx r' => forL fg F xs r'
      | .ct r' => forL fg F xs r'
      | .bk r' => .nx r'
      | o => o)
def sFor (fi : Env → Res (List R)) (fg : FG) (F : FS) : FS := fun r => match fi r with
  | .ok its => forL fg F its r
  | .exc e => .exc e r
  | .bad => .bad
theorem so_for {wi : TI} {g : TG} {tb : TS} {fi : Env → Res (List R)} {fg : FG} {vs : List Nat} (hi : SoI c K wi fi) (hg : SoG c K g fg vs) (hb : SoS c K tb F) : SoS c K (tFor wi g tb) (sFor fi fg F) := fun r s Hf0 H L sr D q => by
  refine hi r s Hf0 H L sr _ ?_
  cases ei : fi r with
  | bad => simp only [sFor, ei] at q; exact q.elim
  | exc e' =>
    simp only [sFor, ei] at q
    exact fun cls d Hf1 H1 x1 h1 => q s cls d Hf1 H1 L x1.fsame (sr.mono x1) h1
  | ok its =>
    simp only [sFor, ei] at q
    intro J Hf1 H1 x1 wk
    refine ⟨fun i m s H => m = its.length - i ∧ i ≤ its.length ∧ ∃ r Hf L, c.SR K r s Hf H L ∧ Same Hf1 Hf ∧ PostS c K Hf D (forL fg F (its.drop i) r), ⟨its.length, by simp, Nat.zero_le _, r, Hf1, L, sr.mono x1, Same.refl _, by simpa using q.mono x1.fsame⟩, ?_⟩
    rintro i m s H ⟨rfl, hle, r, Hf, L, sr, f1, q⟩
    obtain ⟨w1, w2⟩ := wk Hf H f1 sr.sub sr.same0
    by_cases hlt : i < its.length
    · have hit : its[i]? = some its[i] := by simp [hlt]
      obtain ⟨go, yld⟩ := w1 i _ hit
      rw [List.drop_eq_getElem_cons hlt] at q
      refine .inr ⟨go, fun s' H' => ∃ r Hf L, c.SR K r s' Hf H' L ∧ Same Hf1 Hf ∧ PostS c K Hf D (forL fg F (its.drop (i + 1)) r), fun s' H' ⟨r', Hf', L', sr', f', q'⟩ => ⟨its.length - (i + 1), by omega, rfl, hlt, r', Hf', L', sr', f', q'⟩, fun x H3 hy => ?_⟩
      obtain ⟨Hf3, x3, a3⟩ := yld x H3 hy
      have sr3 := sr.mono x3
      unfold forL at q
      cases eg : fg its[i] r with
      | none => rw [eg] at q; exact q.elim
      | some r1 =>
        rw [eg] at q
        refine hg _ x r r1 s Hf3 H3 L sr3 a3 eg _ fun s1 L1 sr1 _ => ?_
        refine hb r1 s1 Hf3 H3 L1 sr1 _ ?_
        have f3 : Same Hf1 Hf3 := f1.trans x3.fsame
        have q3 := q.mono x3.fsame
        dsimp only at q3
        cases eF : F r1 with
        | nx r' => rw [eF] at q3; exact fun s2 Hf2 H2 L2 f2 sr2 => ⟨r', Hf2, L2, sr2, f3.trans f2, q3.mono f2⟩
        | ct r' => rw [eF] at q3; exact fun s2 Hf2 H2 L2 f2 sr2 => ⟨r', Hf2, L2, sr2, f3.trans f2, q3.mono f2⟩
        | bk r' => rw [eF] at q3; exact q3
        | ret o => rw [eF] at q3; exact q3
        | exc e' r' => rw [eF] at q3; exact q3
        | bad => rw [eF] at q3; exact q3
    · have e : i = its.length := by omega
      subst e
      rw [List.drop_length] at q
      exact .inl ⟨w2, q s Hf H L (Same.refl _) sr⟩
theorem ds_for {k : Nat} {tg it : Expr} {fi : Env → Res (List R)} {fg : FG} {vs : List Nat} (B : Bk c X k) (hi : DI c X tg it fi) (hg : DG c X tg fg vs) (hb : DSs c X sts F)
    (hs : ∀ x, foldedSetIterable it X.env x = pure x := by intro _; rfl) : DS c X (.For tg it sts [] pos) (sFor fi fg F) := by
  obtain ⟨wi, p, s⟩ := hi.ex
  obtain ⟨g, p2, s2⟩ := hg.ex
  obtain ⟨tb, p3, s3⟩ := hb.ex
  exact ⟨tFor wi g tb, ps_for B.po B.calm p p2 p3 hs, so_for s s2 s3⟩
end DL
namespace DL
open PySem L2
variable {c : Cn} {X : Cx} {a b e : Expr} {es : List Expr} {f g fa fb : FE} {pos : Pos} {fs : Env → Res (List O)} {K : PySem.W.Frag} {H0 H H' Hf Hf' : Hp} {F G : FS} {st : Stmt} {sts : List Stmt} {ft : Env → Res Bool}
def startE (n : Nat) (os : List O) : Env := os.map (S.vl false) ++ List.replicate (n - os.length) S.un
def runF (n : Nat) (F : FS) : List O → Res O := fun os => match F (startE n os) with
  | .ret o => .ok o
  | .nx _ => .ok (.fz .non)
  | .exc e _ => .exc e
  | _ => .bad
theorem env_un {n : Nat} : EnvR K Hf H0 H (List.replicate n S.un) (List.replicate n none) [] := by
  induction n with
  | zero => exact ⟨rfl, rfl⟩
  | succ n ih => exact ⟨none, List.replicate n none, [], [], rfl, rfl, rfl, ih⟩
theorem env_start {m : Nat} : ∀ {os : List O} {vs : List V}, RepVs K Hf H0 os vs → EnvR K Hf H0 H (os.map (S.vl false) ++ List.replicate m S.un) (vs.map some ++ List.replicate m none) []
  | [], _, h => by have h' : _ = _ := h; subst h'; exact env_un
  | o :: os, _, h => by
    obtain ⟨v, r, e1, h1, h2⟩ := h
    subst e1
    exact ⟨some v, _, [], [], rfl, rfl, ⟨h1, rfl⟩, env_start h2⟩
section
variable {P : Program} {w : World} {mg : Str → Option Value} {base : Heap}
theorem Def.of {x qual : Str} {st : Stmt} {fa : Addr} {fd : FuncData} {N ps : List Str} {k n : Nat} {F : FS} (Fn : Fun K x qual st fa fd) (S : FnScope N ps (defScope st)) (hm : mg x = some (.ref fa)) (hb : Binds K fd ps []) (hn : ps.length = n)
    (hbody : ∀ (cdv : Value) (A : Around) (outer : List PySem.Env) (s : Shared) (H : Hp) (E : XK) (Hf : Hp), Bk ⟨Hf, H, fun cls d _ H' => E cls d H'⟩ (cxOf (L2.CX P w) P w K mg base N qual (defScope st) fa cdv A outer s H E) k →
      DSs ⟨Hf, H, fun cls d _ H' => E cls d H'⟩ (cxOf (L2.CX P w) P w K mg base N qual (defScope st) fa cdv A outer s H E) (defBody st) F) : Def P w K mg base x (k + 1) n (runF N.length F) := by
  refine ⟨fa, fd, ps, ?_, hm, Fn.kp, hb, hn⟩
  subst hn
  refine Fn.okX S (fun vs H Q E h => ?_) (fun cdv A outer s H vs Q E hr h => ?_)
  · obtain ⟨Hf, os, _, _, h2, h3, _⟩ := h
    rw [RepVs.length h2, h3]
  · obtain ⟨Hf, os, sub, hro, h2, h3, h4⟩ := h
    have B : Bk ⟨Hf, H, fun cls d _ H' => E cls d H'⟩ (cxOf (L2.CX P w) P w K mg base N qual (defScope st) fa cdv A outer s H E) k := ⟨hr, takes_of rfl rfl rfl rfl, passes_of rfl, rfl⟩
    obtain ⟨t, p, so⟩ := (hbody cdv A outer s H E Hf B).ex
    refine ⟨t, p, ?_⟩
    have hl : vs.length = os.length := RepVs.length h2
    have sr : SR K Hf H (startE N.length os) (L2.start N vs) Hf H [] := by
      refine ⟨Ext.refl sub, ?_, List.nodup_nil, (fun _ h => nomatch h), (fun _ h => nomatch h), hro⟩
      unfold startE L2.start
      rw [hl]
      exact env_start h2
    refine so _ _ Hf H [] sr _ ?_
    unfold runF at h4
    cases e : F (startE N.length os) with
    | ret o => rw [e] at h4; exact fun v Hf' H' L _ x q n => h4 v Hf' H' L x q n
    | nx r => rw [e] at h4; exact fun s Hf' H' L f sr' => h4 .non Hf' H' [] sr'.ext ⟨rfl, rfl⟩ nw_nil
    | bk r => rw [e] at h4; exact h4.elim
    | ct r => rw [e] at h4; exact h4.elim
    | exc e' r => rw [e] at h4; exact fun s cls d Hf' H' L _ sr' h => h4 cls d Hf' H' sr'.ext h
    | bad => rw [e] at h4; exact h4.elim
theorem Def.imp {x : Str} {k n : Nat} {F F' : List O → Res O} (D : Def P w K mg base x k n F) (h : ∀ os, os.length = n → F' os = .bad ∨ F' os = F os) : Def P w K mg base x k n F' := by
  obtain ⟨fa, fd, ps, h1, h2, h3, h4, h5⟩ := D.ex
  refine ⟨fa, fd, ps, h1.imp fun vs H Q E q => ?_, h2, h3, h4, h5⟩
  obtain ⟨Hf, os, q1, q0, q2, q3, q4⟩ := q
  refine ⟨Hf, os, q1, q0, q2, q3, ?_⟩
  rcases h os q3 with e | e
  · rw [e] at q4; exact q4.elim
  · rw [← e]; exact q4
theorem Def.mono {x : Str} {k k' n : Nat} {F : List O → Res O} (D : Def P w K mg base x k n F) (h : k ≤ k') : Def P w K mg base x k' n F := by
  obtain ⟨fa, fd, ps, h1, h2⟩ := D.ex
  exact ⟨fa, fd, ps, h1.mono h, h2⟩
end
def lenO : O → Option Nat
  | .fz (.tup ds) => some ds.length
  | .tp os => some os.length
  | .fz (.str x) => if x.length ≤ 100000 then some x.length else none
  | o => (items o).map List.length
def gLen : List O → Res R
  | [o] => (match lenO o with | some n => fzR (.int n) | none => .bad)
  | _ => .bad
theorem rep1 {o : O} {vs : List V} (h : RepVs K Hf H [o] vs) : ∃ v, vs = [v] ∧ RepV K Hf H o v := by
  obtain ⟨v, r, e, h1, h2⟩ := h
  have h2' : r = [] := h2
  subst h2'
  exact ⟨v, e, h1⟩
theorem lenO_ok {o : O} {v : V} {n : Nat} (s : Same Hf H) (h : RepV K Hf H o v) (e : lenO o = some n) : LenV K v H n := by
  have go : (items o).map List.length = some n → LenV K v H n := fun e => by
    cases ei : items o with
    | none => rw [ei] at e; cases e
    | some os =>
      rw [ei] at e
      have e' : os.length = n := Option.some.inj e
      obtain ⟨a, vs, e1, h1, h2⟩ := items_rep s h ei
      subst e1
      exact .inl ⟨vs, h1, by rw [RepVs.length h2]; exact e'.symm⟩
  cases o with
  | ls os => exact go e
  | tp os =>
    obtain ⟨a, vs, e1, h1, h2⟩ := h
    subst e1
    have e' : os.length = n := Option.some.inj e
    exact .inr ⟨vs, SqT.of h1, by rw [RepVs.length h2]; exact e'.symm⟩
  | ob _ _ _ => cases e
  | dt _ _ => cases e
  | dk _ _ => cases e
  | gh _ _ _ => cases e
  | fz d =>
    cases d with
    | tup ds =>
      obtain ⟨a, vs, e1, h1, h2⟩ := h
      subst e1
      have e' : ds.length = n := Option.some.inj e
      exact .inr ⟨vs, SqT.of (s _ _ h1), by rw [Reps.length h2]; exact e'.symm⟩
    | str x =>
      have h' : v = .str x := h
      subst h'
      simp only [lenO] at e
      by_cases hx : x.length ≤ 100000
      · rw [if_pos hx] at e
        cases e
        exact ⟨Nat.le_trans hx (by decide), rfl⟩
      · rw [if_neg hx] at e; cases e
    | _ => exact go e
theorem pc_len : PureC K (fun xs H Q => ∃ x n, xs = [x] ∧ LenV K x H n ∧ Q (.int n) H) gLen := fun c s Hf H vs os Q sub h q => by
  cases os with
  | nil => exact q.elim
  | cons o os =>
    cases os with
    | cons _ _ => exact q.elim
    | nil =>
      obtain ⟨v, e, h1⟩ := rep1 h
      subst e
      cases el : lenO o with
      | none => simp only [gLen, el] at q; exact q.elim
      | some n =>
        simp only [gLen, el] at q
        exact ⟨v, n, rfl, lenO_ok sub h1 el, postE_fz sub q rfl⟩
section
variable {p : Pos}
theorem de_len (hg : Gl X "len") (hm : X.mg "len" = none) (h : DA c X [e] fs) (he : starEach [e] X.env = (false, eval e X.env) :: starEach [] X.env := by rfl) (hpl : (backTo pos (starEach [] X.env)).any (·.1) = false := by rfl) : DE c X (.Call (.Name "len" p) [e] [] pos) (eB gLen fs) :=
  de_B call_len pc_len hg hm PySem.boot_len h (by decide) (by decide) he hpl
end
def g1I (k : Int → D) : List O → Res R
  | [.fz (.int i)] => fzR (k i)
  | _ => .bad
def g2I (k : Int → Int → D) : List O → Res R
  | [.fz (.int i), .fz (.int j)] => fzR (k i j)
  | _ => .bad
theorem pc_1I {k : Int → D} {kv : Int → V} (hk : ∀ i H, Rep K H (k i) (kv i)) : PureC K (fun xs H Q => ∃ i, xs = [.int i] ∧ Q (kv i) H) (g1I k) := fun c s Hf H vs os Q sub h q => by
  unfold g1I at q
  split at q
  · obtain ⟨v, r, e1, h1, h2⟩ := h
    subst e1
    rw [show r = [] from h2, show v = _ from h1]
    exact ⟨_, rfl, postE_fz sub q (hk _ Hf)⟩
  · exact q.elim
theorem pc_2I {k : Int → Int → D} {kv : Int → Int → V} (hk : ∀ i j H, Rep K H (k i j) (kv i j)) : PureC K (fun xs H Q => ∃ i j, xs = [.int i, .int j] ∧ Q (kv i j) H) (g2I k) := fun c s Hf H vs os Q sub h q => by
  unfold g2I at q
  split at q
  · obtain ⟨v, r, e1, h1, v2, r2, e2, h2, h3⟩ := h
    subst e1 e2
    rw [show r2 = [] from h3, show v = _ from h1, show v2 = _ from h2]
    exact ⟨_, _, rfl, postE_fz sub q (hk _ _ Hf)⟩
  · exact q.elim
def gAbs := g1I fun i => .int (if i < 0 then -i else i)
def gMax2 := g2I fun i j => .int (if j > i then j else i)
def gMin2 := g2I fun i j => .int (if j < i then j else i)
theorem pc_abs : PureC K (fun xs H Q => ∃ i, xs = [.int i] ∧ Q (.int (if i < 0 then -i else i)) H) gAbs := pc_1I fun _ _ => rfl
theorem pc_max2 : PureC K (fun xs H Q => ∃ i j, xs = [.int i, .int j] ∧ Q (.int (if j > i then j else i)) H) gMax2 := pc_2I fun _ _ _ => rfl
def gList : List O → Res R
  | [o] => (match items o with | some os => if allFz os then .ok (.nw (.ls os)) else .bad | none => .bad)
  | _ => .bad
theorem pc_list : PureC K (fun xs H Q => ∃ p ys, xs = [.ref p] ∧ (SqL K H p ys ∨ SqT K H p ys) ∧ ∀ l, H l = none → Q (.ref l) (upd H l (.lst ys))) gList := fun c s Hf H vs os Q sub h q => by
  cases os with
  | nil => exact q.elim
  | cons o os =>
    cases os with
    | cons _ _ => exact q.elim
    | nil =>
      obtain ⟨v, e, h1⟩ := rep1 h
      subst e
      cases ei : items o with
      | none => simp only [gList, ei] at q; exact q.elim
      | some os =>
        simp only [gList, ei] at q
        by_cases hf : allFz os = true
        · rw [if_pos hf] at q
          obtain ⟨a, vs, e1, h2, h3⟩ := items_rep sub h1 ei
          subst e1
          exact ⟨a, vs, rfl, .inl h2, fun l hl => postE_ls sub q hf h3 hl⟩
        · rw [if_neg hf] at q; exact q.elim
inductive Ty where | non | bl | int | str | lst | tup | dct
  deriving DecidableEq
def Ty.nm : Ty → String
  | .non => "NoneType"
  | .bl => "bool"
  | .int => "int"
  | .str => "str"
  | .lst => "list"
  | .tup => "tuple"
  | .dct => "dict"
def tyO : O → Option Ty
  | .ls _ => some .lst
  | .tp _ => some .tup
  | .fz .non => some .non
  | .fz (.bl _) => some .bl
  | .fz (.int _) => some .int
  | .fz (.str _) => some .str
  | .fz (.lst _) => some .lst
  | .fz (.tup _) => some .tup
  | .fz (.dck _ _) => some .dct
  | .dk _ _ => some .dct
  | _ => none
def isT : Ty → Ty → Bool
  | .bl, .int => true
  | a, b => decide (a = b)
theorem kit_is : ∀ a b : Ty, kitB a.nm b.nm = some (isT a b) := by
  intro a b
  cases a <;> cases b <;> decide +kernel
theorem tyO_ok {o : O} {v : V} {t : Ty} (s : Same Hf H) (h : RepV K Hf H o v) (e : tyO o = some t) : TyX K H v (.type t.nm) := by
  cases o with
  | ls os =>
    cases e
    obtain ⟨a, vs, e1, h1, _⟩ := h
    subst e1
    exact .base (.lst h1)
  | tp os =>
    cases e
    obtain ⟨a, vs, e1, h1, _⟩ := h
    subst e1
    exact .base (.tup h1)
  | ob _ _ _ => cases e
  | gh _ _ _ => cases e
  | dt ks ds => cases e
  | dk ks ds =>
    cases e
    obtain ⟨a, vs, e1, h1, _⟩ := h
    subst e1
    exact .base (.dK h1)
  | fz d =>
    cases d with
    | non => cases e; have h' : v = .non := h; subst h'; exact .base .non
    | bl b => cases e; have h' : v = .bl b := h; subst h'; exact .base (.bl b)
    | int b => cases e; have h' : v = .int b := h; subst h'; exact .base (.int b)
    | str b => cases e; have h' : v = .str b := h; subst h'; exact .base (.str b)
    | ex _ => cases e
    | scr _ => cases e
    | lst ds =>
      cases e
      obtain ⟨a, vs, e1, h1, _⟩ := h
      subst e1
      exact .base (.lst (s _ _ h1))
    | tup ds =>
      cases e
      obtain ⟨a, vs, e1, h1, _⟩ := h
      subst e1
      exact .base (.tup (s _ _ h1))
    | obj _ _ _ => cases e
    | row _ _ => cases e
    | dct ks ds => cases e
    | dck ks ds =>
      cases e
      obtain ⟨a, vs, e1, h1, _⟩ := h
      subst e1
      exact .base (.dK (s _ _ h1))
def eIsi (T : Ty) (f : FE) : FE := fun r => (f r).bind fun x => match tyO x.a with
  | some t => fzR (.bl (isT t T))
  | none => .bad
theorem de_isi {p : Pos} (T : Ty) (hg : Gl X "isinstance") (hm : X.mg "isinstance" = none) (hT : PE X e (tC (.ty T.nm))) (h : DE c X a f)
    (he : starEach [a, e] X.env = (false, eval a X.env) :: starEach [e] X.env := by rfl) (hpl : (backTo pos (starEach [e] X.env)).any (·.1) = false := by rfl) (hs : starEach [e] X.env = (false, eval e X.env) :: starEach [] X.env := by rfl) :
    DE c X (.Call (.Name "isinstance" p) [a, e] [] pos) (eIsi T f) := by
  obtain ⟨t, pa, s⟩ := h.ex
  refine ⟨tCB (rIsi X.K) (tCons t (tCons (tC (.ty T.nm)) tNil)), pe_callB call_isi hg hm (by decide +kernel) (pa_cons pa (pa_cons hT pa_nil hs) he) (by decide) (by decide) he hpl, fun r s' Hf H L sr Q q => ?_⟩
  refine s.run sr pstE q fun x v Hf1 H1 x1 sr1 a1 q1 => ?_
  cases et : tyO x.a with
  | none => simp only [et] at q1; exact q1.elim
  | some t =>
    simp only [et] at q1
    exact ⟨v, .ty T.nm, _, _, _, rfl, .ty T.nm, tyO_ok sr1.sub (a1.a sr1.same0) et, kit_ty (kit_is t T), postE_fz sr1.sub q1 rfl⟩
def ixO (o : O) (k : Int) : Option O := match o with
  | .fz (.tup ds) => (atI ds k).map .fz
  | .tp os => atI os k
  | .fz (.str x) => if x.length ≤ 100000 then (atI x.cps.toList k).map fun c => .fz (.str ⟨#[c]⟩) else none
  | o => (items o).bind fun os => atI os k
theorem atI_rep {os : List O} {vs : List V} {k : Int} {o : O} (h : RepVs K Hf H os vs) (e : atI os k = some o) : ∃ v, atI vs k = some v ∧ RepV K Hf H o v := by
  unfold atI at e ⊢
  rw [RepVs.length h]
  cases ei : ixN os.length k with
  | none => rw [ei] at e; cases e
  | some j =>
    rw [ei] at e
    obtain ⟨v, h1, h2⟩ := RepVs.get h (show os[j]? = some o from e)
    exact ⟨v, h1, h2⟩
theorem atI_map {α β : Type} {g : α → β} {xs : List α} {k : Int} : atI (xs.map g) k = (atI xs k).map g := by
  unfold atI
  rw [List.length_map]
  cases ixN xs.length k with
  | none => rfl
  | some j => show (xs.map g)[j]? = (xs[j]?).map g; rw [List.getElem?_map]
theorem ixO_ok {o p : O} {v : V} {k : Int} {Q : VK} (s : Same Hf H) (h : RepV K Hf H o v) (e : ixO o k = some p) (q : ∀ w, RepV K Hf H p w → Q w H) : rIx K v (.int k) H Q := by
  have go : ((items o).bind fun os => atI os k) = some p → rIx K v (.int k) H Q := fun e => by
    cases ei : items o with
    | none => rw [ei] at e; cases e
    | some os =>
      rw [ei] at e
      obtain ⟨a, vs, e1, h1, h2⟩ := items_rep s h ei
      obtain ⟨w, hw, rw'⟩ := atI_rep h2 e
      exact .inl ⟨a, vs, k, w, e1, rfl, h1, hw, q w rw'⟩
  cases o with
  | ls os => exact go e
  | tp os =>
    obtain ⟨a, vs, e1, h1, h2⟩ := h
    have e' : atI os k = some p := e
    obtain ⟨w, hw, rw'⟩ := atI_rep h2 e'
    exact .inr (.inl ⟨a, vs, k, w, e1, rfl, SqT.of h1, hw, q w rw'⟩)
  | ob _ _ _ => exact go e
  | dt _ _ => exact go e
  | dk _ _ => exact go e
  | gh _ _ _ => exact go e
  | fz d =>
    cases d with
    | tup ds =>
      obtain ⟨a, vs, e1, h1, h2⟩ := h
      have e' : (atI ds k).map O.fz = some p := e
      rw [← atI_map] at e'
      obtain ⟨w, hw, rw'⟩ := atI_rep (H := H) (reps_fz h2) e'
      exact .inr (.inl ⟨a, vs, k, w, e1, rfl, SqT.of (s _ _ h1), hw, q w rw'⟩)
    | str x =>
      have h' : v = .str x := h
      subst h'
      simp only [ixO] at e
      by_cases hx : x.length ≤ 100000
      · rw [if_pos hx] at e
        cases ea : atI x.cps.toList k with
        | none => rw [ea] at e; cases e
        | some cc =>
          rw [ea] at e
          cases e
          exact .inr (.inr ⟨x, k, cc, rfl, rfl, Nat.le_trans hx (by decide), ea, q _ rfl⟩)
      · rw [if_neg hx] at e; cases e
    | _ => exact go e
def eIx (f g : FE) : FE := fun r => (f r).bind fun x => (g r).bind fun y => match y.a with
  | .fz (.int k) => (match x with
    | .nw o => (match ixO (.fz (er o)) k with | some (.fz d) => fzR d | _ => .bad)
    | .vw o => (match ixO o k with | some p => .ok (see true p) | none => .bad)
    | .bw o => (match ixO o k with | some p => .ok (see false p) | none => .bad))
  | _ => .bad
theorem de_ix (ha : DE c X a f) (hb : DE c X b g) (hs : PlainIx b := by exact fun _ _ => rfl) : DE c X (.Subscript a b pos) (eIx f g) := by
  obtain ⟨ta, pa, sa⟩ := ha.ex
  obtain ⟨tb, pb, sb⟩ := hb.ex
  refine ⟨tOp (rIx X.K) ta tb, pe_ix ix_seq pa pb hs, fun r s Hf H L sr Q q => ?_⟩
  refine sa.run sr pstE q fun x v Hf1 H1 x1 sr1 a1 q1 => ?_
  refine sb.run sr1 pstE q1 fun y w Hf2 H2 x2 sr2 a2 q2 => ?_
  have a1' := a1.mono x2.fsame x2.same
  have b2 := a2.a sr2.same0
  cases ey : y.a with
  | ls _ => simp only [ey] at q2; exact q2.elim
  | tp _ => simp only [ey] at q2; exact q2.elim
  | ob _ _ _ => simp only [ey] at q2; exact q2.elim
  | dt _ _ => simp only [ey] at q2; exact q2.elim
  | dk _ _ => simp only [ey] at q2; exact q2.elim
  | gh _ _ _ => simp only [ey] at q2; exact q2.elim
  | fz d =>
    cases d with
    | int k =>
      simp only [ey] at q2
      rw [ey] at b2
      have b3 : w = .int k := b2
      subst b3
      cases x with
      | nw o =>
        cases ei : ixO (.fz (er o)) k with
        | none => simp only [ei] at q2; exact q2.elim
        | some p =>
          cases p with
          | ls _ => simp only [ei] at q2; exact q2.elim
          | tp _ => simp only [ei] at q2; exact q2.elim
          | ob _ _ _ => simp only [ei] at q2; exact q2.elim
          | dt _ _ => simp only [ei] at q2; exact q2.elim
          | dk _ _ => simp only [ei] at q2; exact q2.elim
          | gh _ _ _ => simp only [ei] at q2; exact q2.elim
          | fz d =>
            simp only [ei] at q2
            exact ixO_ok (o := .fz (er o)) sr2.sub a1' ei fun w hw => postE_fz sr2.sub q2 hw
      | vw o =>
        cases ei : ixO o k with
        | none => simp only [ei] at q2; exact q2.elim
        | some p =>
          simp only [ei] at q2
          refine ixO_ok sr2.sub a1' ei fun w hw => q2 w Hf2 H2 [] (Ext.refl sr2.sub) ?_ nw_nil
          cases p with
          | fz d => exact ⟨hw, rfl⟩
          | ls os => exact ⟨hw, rfl⟩
          | tp os => exact ⟨hw, rfl⟩
          | ob _ _ _ => exact ⟨hw, rfl⟩
          | dt _ _ => exact ⟨hw, rfl⟩
          | dk _ _ => exact ⟨hw, rfl⟩
          | gh _ _ _ => exact ⟨hw, rfl⟩
      | bw o =>
        cases ei : ixO o k with
        | none => simp only [ei] at q2; exact q2.elim
        | some p =>
          simp only [ei] at q2
          cases o with
          | fz d0 =>
            have hd : ∃ d', p = .fz d' := by
              cases d0 with
              | tup ds =>
                cases ea : atI ds k with
                | none => simp [ixO, ea] at ei
                | some d' => simp [ixO, ea] at ei; exact ⟨d', ei.symm⟩
              | str x =>
                simp only [ixO] at ei
                by_cases hx : x.length ≤ 100000
                · rw [if_pos hx] at ei
                  cases ea : atI x.cps.toList k with
                  | none => rw [ea] at ei; cases ei
                  | some cc => rw [ea] at ei; cases ei; exact ⟨_, rfl⟩
                · rw [if_neg hx] at ei; cases ei
              | lst ds =>
                have ei' : atI (ds.map O.fz) k = some p := ei
                rw [atI_map] at ei'
                cases ea : atI ds k with
                | none => rw [ea] at ei'; cases ei'
                | some d' => rw [ea] at ei'; cases ei'; exact ⟨_, rfl⟩
              | scr ns =>
                have ei' : atI (ns.map fun n => O.fz (.int n)) k = some p := ei
                rw [atI_map] at ei'
                cases ea : atI ns k with
                | none => rw [ea] at ei'; cases ei'
                | some d' => rw [ea] at ei'; cases ei'; exact ⟨_, rfl⟩
              | _ => cases ei
            obtain ⟨d', rfl⟩ := hd
            exact ixO_ok (o := .fz d0) sr2.sub a1' ei fun w hw => postE_fz sr2.sub q2 hw
          | ob _ _ _ => cases ei
          | dt _ _ => cases ei
          | dk _ _ => cases ei
          | gh _ _ _ => cases ei
          | ls os =>
            obtain ⟨a, vs, e1, h1, h2⟩ := a1'
            obtain ⟨w, hw, rw'⟩ := atI_rep h2 (show atI os k = some p from ei)
            refine .inl ⟨a, vs, k, w, e1, rfl, SqL.of (sr2.same0.lst h1), hw, q2 w Hf2 H2 [] (Ext.refl sr2.sub) ?_ nw_nil⟩
            cases p with
            | fz d => exact ⟨rw', rfl⟩
            | ls os => exact ⟨rw', rfl⟩
            | tp os => exact ⟨rw', rfl⟩
            | ob _ _ _ => exact ⟨rw', rfl⟩
            | dt _ _ => exact ⟨rw', rfl⟩
            | dk _ _ => exact ⟨rw', rfl⟩
            | gh _ _ _ => exact ⟨rw', rfl⟩
          | tp os =>
            obtain ⟨a, vs, e1, h1, h2⟩ := a1'
            obtain ⟨w, hw, rw'⟩ := atI_rep h2 (show atI os k = some p from ei)
            refine .inr (.inl ⟨a, vs, k, w, e1, rfl, SqT.of (sr2.same0.tup h1), hw, q2 w Hf2 H2 [] (Ext.refl sr2.sub) ?_ nw_nil⟩)
            cases p with
            | fz d => exact ⟨rw', rfl⟩
            | ls os => exact ⟨rw', rfl⟩
            | tp os => exact ⟨rw', rfl⟩
            | ob _ _ _ => exact ⟨rw', rfl⟩
            | dt _ _ => exact ⟨rw', rfl⟩
            | dk _ _ => exact ⟨rw', rfl⟩
            | gh _ _ _ => exact ⟨rw', rfl⟩
    | _ => simp only [ey] at q2; exact q2.elim
end DL
namespace DL
open PySem L2
variable {c : Cn} {X : Cx} {a b e : Expr} {es : List Expr} {f g fa fb : FE} {pos : Pos} {fs : Env → Res (List O)} {K : PySem.W.Frag} {H0 H H' Hf Hf' : Hp} {F G : FS} {st : Stmt} {sts : List Stmt} {ft : Env → Res Bool}
theorem items_lst {o : O} {os : List O} {v : V} (s : Same Hf H) (h : RepV K Hf H o v) (e : items o = some os) (hs : ∀ ns, o ≠ .fz (.scr ns)) : ∃ a vs, v = .ref a ∧ H a = some (.lst vs) ∧ RepVs K Hf H os vs := by
  cases o with
  | ls os' =>
    have e' : os' = os := Option.some.inj e
    subst e'
    exact h
  | tp _ => cases e
  | ob _ _ _ => cases e
  | dt _ _ => cases e
  | dk _ _ => cases e
  | gh _ _ _ => cases e
  | fz d =>
    cases d with
    | lst ds =>
      have e' : ds.map O.fz = os := Option.some.inj e
      subst e'
      obtain ⟨a, vs, e1, h1, h2⟩ := h
      exact ⟨a, vs, e1, s _ _ h1, reps_fz h2⟩
    | scr ns => exact absurd rfl (hs ns)
    | non => cases e
    | bl b => cases e
    | int i => cases e
    | str x => cases e
    | ex c => cases e
    | tup ds => cases e
    | obj _ _ _ => cases e
    | row _ _ => cases e
    | dct _ _ => cases e
    | dck _ _ => cases e
def isScr : O → Bool
  | .fz (.scr _) => true
  | _ => false
theorem isScr_no {o : O} (h : isScr o = false) : ∀ ns, o ≠ .fz (.scr ns) := fun ns e => by subst e; cases h
def lsR (os : List O) : Res R := if os.length ≤ 100000 then (if allFz os then .ok (.nw (.ls os)) else .ok (.vw (.ls os))) else .bad
theorem lsR_len {os : List O} {c : Cn} {s : St} {Q : VK} (q : PostE c K s Hf H Q (lsR os)) : os.length ≤ 100000 := by
  unfold lsR at q
  by_cases h : os.length ≤ 100000
  · exact h
  · rw [if_neg h] at q; exact q.elim
theorem lsR_ok {os : List O} {vs : List V} {c : Cn} {s : St} {Q : VK} {p : Addr} (sub : Same Hf H) (q : PostE c K s Hf H Q (lsR os)) (hr : RepVs K Hf H os vs) (hp : H p = none) : Q (.ref p) (upd H p (.lst vs)) := by
  unfold lsR at q
  by_cases h : os.length ≤ 100000
  · rw [if_pos h] at q
    by_cases ha : allFz os = true
    · rw [if_pos ha] at q; exact postE_ls sub q ha hr hp
    · rw [if_neg ha] at q
      have x := Ext.new (o := .lst vs) sub hp
      exact q (.ref p) Hf _ [] x ⟨⟨p, vs, rfl, upd_same, RepVs.mono (Same.refl _) x.same os vs hr⟩, rfl⟩ ⟨List.nodup_nil, fun _ h => nomatch h⟩
  · rw [if_neg h] at q; exact q.elim
def gCat : O → O → Res R := fun a b => if isScr a || isScr b then .bad else match items a, items b with
  | some xs, some ys => lsR (xs ++ ys)
  | _, _ => .bad
theorem pr_cat : PureR K rCat gCat := fun c s Hf H x y a b Q sub ha hb q => by
  unfold gCat at q
  by_cases hs : (isScr a || isScr b) = true
  · rw [if_pos hs] at q; exact q.elim
  · rw [if_neg hs] at q
    simp only [Bool.or_eq_true, not_or, Bool.not_eq_true] at hs
    cases ea : items a with
    | none => simp only [ea] at q; exact q.elim
    | some xs =>
      cases eb : items b with
      | none => simp only [ea, eb] at q; exact q.elim
      | some ys =>
        simp only [ea, eb] at q
        have l2 := lsR_len q
        obtain ⟨p, vs, e1, h1, h2⟩ := items_lst sub ha ea (isScr_no hs.1)
        obtain ⟨p2, ws, e2, h3, h4⟩ := items_lst sub hb eb (isScr_no hs.2)
        rw [List.length_append] at l2
        exact ⟨p, p2, vs, ws, e1, e2, h1, h3, by rw [RepVs.length h2, RepVs.length h4]; exact Nat.le_trans l2 (by decide), fun l hl => lsR_ok sub q (h2.append h4) hl⟩
def repL {α : Type} (xs : List α) (k : Nat) : List α := (List.replicate k xs).flatten
theorem repVs_rep {os : List O} {vs : List V} (h : RepVs K Hf H os vs) : ∀ k, RepVs K Hf H (repL os k) (repL vs k)
  | 0 => rfl
  | k + 1 => by
    unfold repL
    rw [List.replicate_succ, List.replicate_succ, List.flatten_cons, List.flatten_cons]
    exact h.append (repVs_rep h k)
def gRep : O → O → Res R
  | a, .fz (.int k) => if isScr a || !small62 k then .bad else (match items a with
    | some xs => if xs.length * k.toNat ≤ 100000 then lsR (repL xs k.toNat) else .bad
    | none => .bad)
  | _, _ => .bad
theorem pr_rep : PureR K rRep gRep := fun c s Hf H x y a b Q sub ha hb q => by
  cases b with
  | ls _ => exact q.elim
  | tp _ => exact q.elim
  | ob _ _ _ => exact q.elim
  | dt _ _ => exact q.elim
  | dk _ _ => exact q.elim
  | gh _ _ _ => exact q.elim
  | fz d =>
    cases d with
    | int k =>
      have hb' : y = .int k := hb
      subst hb'
      have q' : PostE c K s Hf H Q (if isScr a || !small62 k then .bad else (match items a with
        | some xs => if xs.length * k.toNat ≤ 100000 then lsR (repL xs k.toNat) else .bad
        | none => .bad)) := q
      by_cases hs : (isScr a || !small62 k) = true
      · rw [if_pos hs] at q'; exact q'.elim
      · rw [if_neg hs] at q'
        simp only [Bool.or_eq_true, not_or, Bool.not_eq_true, Bool.not_eq_true', Bool.not_eq_false] at hs
        have hk := of_decide_eq_true hs.2
        cases ea : items a with
        | none => simp only [ea] at q'; exact q'.elim
        | some xs =>
          simp only [ea] at q'
          by_cases hz : xs.length * k.toNat ≤ 100000
          · rw [if_pos hz] at q'
            have l2 := lsR_len q'
            obtain ⟨p, vs, e1, h1, h2⟩ := items_lst sub ha ea (isScr_no hs.1)
            exact ⟨p, k, vs, e1, rfl, h1, by omega, by omega, by rw [RepVs.length h2]; exact Nat.le_trans hz (by decide), fun l hl => lsR_ok sub q' (repVs_rep h2 _) hl⟩
          · rw [if_neg hz] at q'; exact q'.elim
    | _ => exact q.elim
theorem PureR.or {r1 r2 : R2} {g1 g2 : O → O → Res R} (C : O → O → Bool) (h1 : PureR K r1 g1) (h2 : PureR K r2 g2) : PureR K (fun x y H Q => r1 x y H Q ∨ r2 x y H Q) (fun a b => if C a b then g1 a b else g2 a b) := fun c s Hf H x y a b Q sub ha hb q => by
  dsimp only at q
  by_cases h : C a b = true
  · rw [if_pos h] at q; exact .inl (h1 c s Hf H x y a b Q sub ha hb q)
  · rw [if_neg h] at q; exact .inr (h2 c s Hf H x y a b Q sub ha hb q)
def gCatS : O → O → Res R
  | .fz (.str x), .fz (.str y) => if x.length + y.length ≤ 100000 then fzR (.str (x ++ y)) else .bad
  | _, _ => .bad
theorem pr_catS : PureR K (fun x y H Q => ∃ i j, x = .str i ∧ y = .str j ∧ i.length + j.length ≤ sizeLine ∧ Q (.str (i ++ j)) H) gCatS := fun c s Hf H x y a b Q sub ha hb q => by
  cases a with
  | ls _ => exact q.elim
  | tp _ => exact q.elim
  | ob _ _ _ => exact q.elim
  | dt _ _ => exact q.elim
  | dk _ _ => exact q.elim
  | gh _ _ _ => exact q.elim
  | fz d => cases d with
    | str z => cases b with
      | ls _ => exact q.elim
      | tp _ => exact q.elim
      | ob _ _ _ => exact q.elim
      | dt _ _ => exact q.elim
      | dk _ _ => exact q.elim
      | gh _ _ _ => exact q.elim
      | fz d => cases d with
        | str z2 =>
          have q' : PostE c K s Hf H Q (if z.length + z2.length ≤ 100000 then fzR (.str (z ++ z2)) else .bad) := q
          by_cases hl : z.length + z2.length ≤ 100000
          · rw [if_pos hl] at q'
            exact ⟨z, z2, ha, hb, Nat.le_trans hl (by decide), postE_fz sub q' rfl⟩
          · rw [if_neg hl] at q'; exact q'.elim
        | _ => exact q.elim
    | _ => exact q.elim
def isI : O → O → Bool
  | .fz (.int _), _ => true
  | _, _ => false
def isS : O → O → Bool
  | .fz (.str _), _ => true
  | _, _ => false
def gAddA : O → O → Res R := fun a b => if isI a b then gAdd a b else if isS a b then gCatS a b else gCat a b
def gMulA : O → O → Res R := fun a b => if isI a b then gMul a b else gRep a b
theorem de_addA (ha : DE c X a fa) (hb : DE c X b fb) : DE c X (.BinOp a .Add b pos) (eOp gAddA fa fb) :=
  de_op (op_add.or (op_add_str.or op_cat)) (PureR.or isI (pure_I0 fun _ _ _ => rfl) (PureR.or isS pr_catS pr_cat)) ha hb
theorem de_mulA (ha : DE c X a fa) (hb : DE c X b fb) : DE c X (.BinOp a .Mult b pos) (eOp gMulA fa fb) :=
  de_op (op_mulH.or op_rep) (PureR.or isI (pure_I (fun i j h => by unfold CMulH; exact of_decide_eq_true h) fun _ _ _ => rfl) pr_rep) ha hb
mutual
def py : D → Option PyData
  | .non => some .none
  | .bl b => some (.bool b)
  | .int i => some (.int i)
  | .str x => some (.str x)
  | .lst ds => (pys ds).map .list
  | .tup ds => (pys ds).map .tuple
  | _ => none
def pys : List D → Option (List PyData)
  | [] => some []
  | d :: ds => (py d).bind fun p => (pys ds).map (p :: ·)
end
mutual
theorem dp_of : ∀ {d : D} {p : PyData} {v : V}, py d = some p → Rep K H d v → Dp K H v p
  | .non, p, v, e, h => by have h' : v = .non := h; subst h'; cases e; exact .non
  | .bl b, p, v, e, h => by have h' : v = .bl b := h; subst h'; cases e; exact .bl b
  | .int b, p, v, e, h => by have h' : v = .int b := h; subst h'; cases e; exact .int b
  | .str b, p, v, e, h => by have h' : v = .str b := h; subst h'; cases e; exact .str b
  | .lst ds, p, v, e, h => by
    obtain ⟨a, vs, e1, h1, h2⟩ := h
    subst e1
    cases e2 : pys ds with
    | none => simp [py, e2] at e
    | some ps =>
      have e' : PyData.list ps = p := by simpa [py, e2] using e
      subst e'
      exact .lst (SqL.of h1) (dps_of e2 h2)
  | .tup ds, p, v, e, h => by
    obtain ⟨a, vs, e1, h1, h2⟩ := h
    subst e1
    cases e2 : pys ds with
    | none => simp [py, e2] at e
    | some ps =>
      have e' : PyData.tuple ps = p := by simpa [py, e2] using e
      subst e'
      exact .tup (SqT.of h1) (dps_of e2 h2)
  | .scr _, _, _, e, _ => by simp [py] at e
  | .ex _, _, _, e, _ => by simp [py] at e
  | .obj _ _ _, _, _, e, _ => by simp [py] at e
  | .row _ _, _, _, e, _ => by simp [py] at e
  | .dct _ _, _, _, e, _ => by simp [py] at e
  | .dck _ _, _, _, e, _ => by simp [py] at e
theorem dps_of : ∀ {ds : List D} {ps : List PyData} {vs : List V}, pys ds = some ps → Reps K H ds vs → DpAll K H vs ps
  | [], ps, vs, e, h => by
    have h' : vs = [] := h
    subst h'
    have e' : [] = ps := by simpa [pys] using e
    subst e'
    exact .nil
  | d :: ds, ps, vs, e, h => by
    obtain ⟨v, r, e1, h1, h2⟩ := h
    subst e1
    cases e2 : py d with
    | none => simp [pys, e2] at e
    | some p =>
      cases e3 : pys ds with
      | none => simp [pys, e2, e3] at e
      | some qs =>
        have e' : p :: qs = ps := by simpa [pys, e2, e3] using e
        subst e'
        exact .cons (dp_of e2 h1) (dps_of e3 h2)
end
mutual
theorem RepV.rep (s : Same Hf H) : ∀ (o : O) (v : V), RepV K Hf H o v → Rep K H (er o) v
  | .fz d, v, h => Rep.mono s d v h
  | .ls os, v, h => by
    obtain ⟨a, vs, e1, h1, h2⟩ := h
    exact ⟨a, vs, e1, h1, RepVs.rep s os vs h2⟩
  | .tp os, v, h => by
    obtain ⟨a, vs, e1, h1, h2⟩ := h
    exact ⟨a, vs, e1, h1, RepVs.rep s os vs h2⟩
  | .ob c ns os, v, h => by
    obtain ⟨a, dx, vs, e1, h1, h3, h4, h2, _⟩ := h
    exact ⟨a, dx, vs, e1, h1, h3, by rw [h4, ers_eq, List.length_map], RepVs.rep s os vs h2⟩
  | .dt ks ds, v, h => by
    obtain ⟨a, vs, e1, h1, h3, h2⟩ := h
    exact ⟨a, vs, e1, h1, h3, Reps.mono s ds vs h2⟩
  | .dk ks ds, v, h => by
    obtain ⟨a, vs, e1, h1, h3, h2⟩ := h
    exact ⟨a, vs, e1, h1, h3, Reps.mono s ds vs h2⟩
  | .gh o _ _, v, h => RepV.rep s o v h
theorem RepVs.rep (s : Same Hf H) : ∀ (os : List O) (vs : List V), RepVs K Hf H os vs → Reps K H (ers os) vs
  | [], _, h => h
  | o :: os, _, h => by
    obtain ⟨v, r, e1, h1, h2⟩ := h
    exact ⟨v, r, e1, RepV.rep s o v h1, RepVs.rep s os r h2⟩
end
def eqD (d e : D) : Option Bool := match py d, py e with
  | some p, some q => if SeqAt.shaped p && SeqAt.shaped q then some (PyData.eqv p q) else none
  | _, _ => none
def gEqD (a b : O) : Res R := match eqD (er a) (er b) with
  | some k => fzR (.bl k)
  | none => .bad
def gNeD (a b : O) : Res R := match eqD (er a) (er b) with
  | some k => fzR (.bl (!k))
  | none => .bad
def gEq : O → O → Res R
  | .fz (.int i), .fz (.int j) => fzR (.bl (decide (i = j)))
  | a, b => gEqD a b
def gNe : O → O → Res R
  | .fz (.int i), .fz (.int j) => fzR (.bl (!decide (i = j)))
  | a, b => gNeD a b
theorem eqD_ok {x y : V} {a b : O} {k : Bool} (sub : Same Hf H) (ha : RepV K Hf H a x) (hb : RepV K Hf H b y) (e : eqD (er a) (er b) = some k) :
    ∃ p q, Dp K H x p ∧ Dp K H y q ∧ SeqAt.shaped p = true ∧ SeqAt.shaped q = true ∧ PyData.eqv p q = k := by
  unfold eqD at e
  split at e
  · rename_i p q e1 e2
    by_cases hs : (SeqAt.shaped p && SeqAt.shaped q) = true
    · rw [if_pos hs] at e
      rw [Bool.and_eq_true] at hs
      exact ⟨p, q, dp_of e1 (RepV.rep sub a x ha), dp_of e2 (RepV.rep sub b y hb), hs.1, hs.2, Option.some.inj e⟩
    · rw [if_neg hs] at e; cases e
  · cases e
theorem pr_eqD : PureR K (rEqD K) gEqD := fun c s Hf H x y a b Q sub ha hb q => by
  unfold gEqD at q
  cases e : eqD (er a) (er b) with
  | none => simp only [e] at q; exact q.elim
  | some k =>
    simp only [e] at q
    obtain ⟨p, p2, h1, h2, h3, h4, h5⟩ := eqD_ok sub ha hb e
    exact ⟨p, p2, h1, h2, h3, h4, by rw [h5]; exact postE_fz sub q rfl⟩
theorem pr_neD : PureR K (rNeD K) gNeD := fun c s Hf H x y a b Q sub ha hb q => by
  unfold gNeD at q
  cases e : eqD (er a) (er b) with
  | none => simp only [e] at q; exact q.elim
  | some k =>
    simp only [e] at q
    obtain ⟨p, p2, h1, h2, h3, h4, h5⟩ := eqD_ok sub ha hb e
    exact ⟨p, p2, h1, h2, h3, h4, by rw [h5]; exact postE_fz sub q rfl⟩
theorem shaped_int (i : Int) : SeqAt.shaped (.int i) = true := rfl
theorem eqv_int (i j : Int) : PyData.eqv (.int i) (.int j) = decide (i = j) := by
  show (i == j) = _
  by_cases h : i = j
  · subst h; simp
  · rw [decide_eq_false h]; exact beq_eq_false_iff_ne.mpr h
theorem int_cases (a b : O) : (∃ i j, a = .fz (.int i) ∧ b = .fz (.int j)) ∨ (gEq a b = gEqD a b ∧ gNe a b = gNeD a b) := by
  cases a with
  | ls _ => exact .inr ⟨rfl, rfl⟩
  | tp _ => exact .inr ⟨rfl, rfl⟩
  | ob _ _ _ => exact .inr ⟨rfl, rfl⟩
  | dt _ _ => exact .inr ⟨rfl, rfl⟩
  | dk _ _ => exact .inr ⟨rfl, rfl⟩
  | gh _ _ _ => exact .inr ⟨rfl, rfl⟩
  | fz d => cases d with
    | int i => cases b with
      | ls _ => exact .inr ⟨rfl, rfl⟩
      | tp _ => exact .inr ⟨rfl, rfl⟩
      | ob _ _ _ => exact .inr ⟨rfl, rfl⟩
      | dt _ _ => exact .inr ⟨rfl, rfl⟩
      | dk _ _ => exact .inr ⟨rfl, rfl⟩
      | gh _ _ _ => exact .inr ⟨rfl, rfl⟩
      | fz d => cases d with
        | int j => exact .inl ⟨i, j, rfl, rfl⟩
        | _ => exact .inr ⟨rfl, rfl⟩
    | _ => exact .inr ⟨rfl, rfl⟩
theorem pr_eq : PureR K (rEqD K) gEq := fun c s Hf H x y a b Q sub ha hb q => by
  rcases int_cases a b with ⟨i, j, rfl, rfl⟩ | ⟨e1, _⟩
  · have h1 : x = .int i := ha
    have h2 : y = .int j := hb
    subst h1 h2
    exact ⟨.int i, .int j, .int i, .int j, shaped_int i, shaped_int j, by rw [eqv_int]; exact postE_fz sub q rfl⟩
  · rw [e1] at q; exact pr_eqD c s Hf H x y a b Q sub ha hb q
theorem pr_ne : PureR K (rNeD K) gNe := fun c s Hf H x y a b Q sub ha hb q => by
  rcases int_cases a b with ⟨i, j, rfl, rfl⟩ | ⟨_, e1⟩
  · have h1 : x = .int i := ha
    have h2 : y = .int j := hb
    subst h1 h2
    exact ⟨.int i, .int j, .int i, .int j, shaped_int i, shaped_int j, by rw [eqv_int]; exact postE_fz sub q rfl⟩
  · rw [e1] at q; exact pr_neD c s Hf H x y a b Q sub ha hb q
section
variable {k : Nat}
theorem dt_eq (B : Bk c X k) (ha : DE c X a fa) (hb : DE c X b fb) : DT c X (.Compare a [.Eq] [b] pos) (tOf (eOp gEq fa fb)) := dt_cmp (op_eqD B.hr.units) pr_eq ha hb (nomark _)
theorem dt_ne (B : Bk c X k) (ha : DE c X a fa) (hb : DE c X b fb) : DT c X (.Compare a [.NotEq] [b] pos) (tOf (eOp gNe fa fb)) := dt_cmp (op_neD B.hr.units) pr_ne ha hb (nomark _)
theorem de_eq (B : Bk c X k) (ha : DE c X a fa) (hb : DE c X b fb) : DE c X (.Compare a [.Eq] [b] pos) (eOp gEq fa fb) := de_cmp (op_eqD B.hr.units) pr_eq ha hb (nomark _)
end
def cutL {α : Type} (xs : List α) (lo hi : Option Int) : List α := (xs.drop (HT.sIx xs.length 0 lo)).take (HT.sIx xs.length xs.length hi - HT.sIx xs.length 0 lo)
theorem RepVs.drop : ∀ {os : List O} {vs : List V} (n : Nat), RepVs K Hf H os vs → RepVs K Hf H (os.drop n) (vs.drop n)
  | [], _, n, h => by have h' : _ = _ := h; subst h'; cases n <;> rfl
  | o :: os, _, 0, h => h
  | o :: os, _, n + 1, h => by
    obtain ⟨v, r, e, h1, h2⟩ := h
    subst e
    exact RepVs.drop n h2
theorem RepVs.take : ∀ {os : List O} {vs : List V} (n : Nat), RepVs K Hf H os vs → RepVs K Hf H (os.take n) (vs.take n)
  | [], _, n, h => by have h' : _ = _ := h; subst h'; cases n <;> rfl
  | o :: os, _, 0, h => rfl
  | o :: os, _, n + 1, h => by
    obtain ⟨v, r, e, h1, h2⟩ := h
    subst e
    exact ⟨v, _, rfl, h1, RepVs.take n h2⟩
theorem RepVs.cut {os : List O} {vs : List V} (lo hi : Option Int) (h : RepVs K Hf H os vs) : RepVs K Hf H (cutL os lo hi) (cutV vs lo hi) := by
  unfold cutL cutV
  rw [RepVs.length h]
  exact (h.drop _).take _
def FP := Env → Res (Option Int)
def pNone : FP := fun _ => .ok none
def pSome (f : FE) : FP := fun r => (f r).bind fun x => match x.a with
  | .fz (.int k) => .ok (some k)
  | _ => .bad
def PostP (c : Cn) (K : PySem.W.Frag) (s : St) (Hf H : Hp) (Q : Option Int → Hp → Prop) : Res (Option Int) → Prop
  | .ok b => ∀ Hf' H', Ext Hf H Hf' H' → Q b H'
  | .exc e => PostX c K s Hf H e
  | .bad => False
theorem pstP {s : St} {Q : Option Int → Hp → Prop} : Pst c K s (fun Hf H z => PostP c K s Hf H Q z) where
  bad := fun _ _ h => h
  exc := fun _ _ _ h => h
  mono := fun Hf H Hf' H' z x h => by
    cases z with
    | ok r => exact fun Hf2 H2 y => h Hf2 H2 (x.trans y)
    | exc e => exact PostX.mono x h
    | bad => exact h
def SoP (c : Cn) (K : PySem.W.Frag) (t : TO) (f : FP) : Prop := ∀ r s Hf H L, c.SR K r s Hf H L → ∀ Q, PostP c K s Hf H Q (f r) → t s H Q
structure DP (c : Cn) (X : Cx) (e : Option Expr) (f : FP) : Prop where
  ex : ∃ t, PO X e t ∧ SoP c X.K t f
theorem dp_none : DP c X none pNone := ⟨tNoPart, po_none, fun r s Hf H L sr Q q => q Hf H (Ext.refl sr.sub)⟩
theorem dp_some (h : DE c X e f) : DP c X (some e) (pSome f) := by
  obtain ⟨t, p, s⟩ := h.ex
  refine ⟨tPart t, po_some p, fun r s' Hf H L sr Q q => ?_⟩
  refine s.run sr pstP q fun x v Hf1 H1 x1 sr1 a1 q1 => ?_
  have a2 := a1.a sr1.same0
  cases ex : x.a with
  | ls _ => simp only [ex] at q1; exact q1.elim
  | tp _ => simp only [ex] at q1; exact q1.elim
  | ob _ _ _ => simp only [ex] at q1; exact q1.elim
  | dt _ _ => simp only [ex] at q1; exact q1.elim
  | dk _ _ => simp only [ex] at q1; exact q1.elim
  | gh _ _ _ => simp only [ex] at q1; exact q1.elim
  | fz d =>
    cases d with
    | int k =>
      simp only [ex] at q1
      rw [ex] at a2
      exact ⟨k, a2, q1 Hf1 H1 (Ext.refl sr1.sub)⟩
    | _ => simp only [ex] at q1; exact q1.elim
theorem SoP.run {t : TO} {fp : FP} {r : Env} {s : St} {L : List Addr} (h : SoP c K t fp) (sr : c.SR K r s Hf H L) {β : Type} {post : Hp → Hp → Res β → Prop} (P : Pst c K s post) {k : Option Int → Res β} (hp : post Hf H ((fp r).bind k)) {Q : Option Int → Hp → Prop}
    (hq : ∀ b Hf1 H1, Ext Hf H Hf1 H1 → c.SR K r s Hf1 H1 L → post Hf1 H1 (k b) → Q b H1) : t s H Q := by
  refine h r s Hf H L sr Q ?_
  cases e : fp r with
  | bad => rw [e] at hp; exact absurd hp (P.bad _ _)
  | exc e' => rw [e] at hp; exact P.exc _ _ _ hp
  | ok x =>
    rw [e] at hp
    intro Hf1 H1 x1
    exact hq x Hf1 H1 x1 (sr.mono x1) (P.mono _ _ _ _ _ x1 hp)
def eSl (f : FE) (l h : FP) : FE := fun r => (f r).bind fun x => (l r).bind fun lo => (h r).bind fun hi => match items x.a with
  | some os => lsR (cutL os lo hi)
  | none => .bad
theorem de_sl {lo hi : Option Expr} {fl fh : FP} {p2 : Pos} (h : DE c X a f) (hl : DP c X lo fl) (hh : DP c X hi fh) : DE c X (.Subscript a (.Slice lo hi none p2) pos) (eSl f fl fh) := by
  obtain ⟨t, p, s⟩ := h.ex
  obtain ⟨tl, pl, sl⟩ := hl.ex
  obtain ⟨th, ph, sh⟩ := hh.ex
  refine ⟨_, pe_slice sl_list p pl ph, fun r s' Hf H L sr Q q => ?_⟩
  refine s.run sr pstE q fun x v Hf1 H1 x1 sr1 a1 q1 => ?_
  refine sl.run sr1 pstE q1 fun l Hf2 H2 x2 sr2 q2 => ?_
  refine sh.run sr2 pstE q2 fun u Hf3 H3 x3 sr3 q3 => ?_
  have a3 := (a1.mono (x2.trans x3).fsame (x2.trans x3).same).a sr3.same0
  cases ei : items x.a with
  | none => simp only [ei] at q3; exact q3.elim
  | some os =>
    simp only [ei] at q3
    obtain ⟨p', vs, e1, h1, h2⟩ := items_rep sr3.sub a3 ei
    exact ⟨p', vs, e1, h1, fun l hl => lsR_ok sr3.sub q3 (h2.cut _ _) hl⟩
def newO : R → Option O
  | .nw o => some o
  | _ => none
def lcL (fg : FG) (ft : Env → Res Bool) (f : FE) (r : Env) : List R → List O → Res R
  | [], acc => .ok (.nw (.ls acc))
  | x :: xs, acc => match fg x r with
    | none => .bad
    | some r1 => (match ft r1 with
      | .ok true => (match f r1 with
        | .ok y => (match newO y with
          | some o => if acc.length ≤ 100000 then lcL fg ft f r xs (acc ++ [o]) else .bad
          | none => .bad)
        | _ => .bad)
      | .ok false => lcL fg ft f r xs acc
      | _ => .bad)
def wipeE (r : Env) : List Nat → Env
  | [] => r
  | v :: vs => (wipeE r vs).set v S.un
def tYesD : Env → Res Bool := fun _ => .ok true
theorem SR.wipe {r : Env} {s : St} {L : List Addr} (sr : c.SR K r s Hf H L) : ∀ vs : List Nat, (∀ v ∈ vs, v < r.length) → ∃ L', c.SR K (wipeE r vs) (wipe s vs) Hf H L' ∧ (wipeE r vs).length = r.length ∧ ∀ a ∈ L', a ∈ L
  | [], _ => ⟨L, sr, rfl, fun _ h => h⟩
  | v :: vs, hv => by
    obtain ⟨L', sr', hl, hs⟩ := SR.wipe sr vs fun w hw => hv w (List.mem_cons_of_mem _ hw)
    have hi : v < (wipeE r vs).length := by rw [hl]; exact hv v List.mem_cons_self
    obtain ⟨z, hz⟩ : ∃ z, (wipeE r vs)[v]? = some z := ⟨(wipeE r vs)[v], by simp [hi]⟩
    obtain ⟨w, A, M, B, h1, h2, h3, h4⟩ := sr'.env.at hz
    have sub2 : ∀ a ∈ A ++ [] ++ B, a ∈ L' := fun a ha => by
      rw [h2]; simp only [List.mem_append, List.not_mem_nil, or_false] at ha ⊢
      rcases ha with ha | ha
      · exact .inl (.inl ha)
      · exact .inr ha
    refine ⟨A ++ [] ++ B, ⟨sr'.ext, h4 Hf H .un none [] (Same.refl _) Tst.rf (fun _ _ _ e => e) rfl, ?_, fun a ha => sr'.fr a (sub2 a ha), fun a ha => sr'.ok a (sub2 a ha), sr'.rows⟩, by unfold wipeE; rw [List.length_set]; exact hl, fun a ha => hs a (sub2 a ha)⟩
    have nd := sr'.nd
    rw [h2] at nd
    simp only [List.nodup_append, List.mem_append] at nd
    simp only [List.append_nil, List.nodup_append]
    obtain ⟨⟨n1, n2, d1⟩, n3, d2⟩ := nd
    exact ⟨n1, n3, fun a ha b hb => d2 a (.inl ha) b hb⟩
theorem wipe_out {i : Nat} {v : Option V} : ∀ {vs : List Nat} {s : St}, i ∉ vs → wipe (s.set i v) vs = (wipe s vs).set i v
  | [], _, _ => rfl
  | k :: vs, s, hk => by
    simp only [List.mem_cons, not_or] at hk
    show (wipe (s.set i v) vs).set k none = ((wipe s vs).set k none).set i v
    rw [wipe_out hk.2, List.set_comm _ _ hk.1]
theorem wipe_wipe {s : St} : ∀ {vs : List Nat}, wipe (wipe s vs) vs = wipe s vs
  | [] => rfl
  | v :: vs => by
    show (wipe ((wipe s vs).set v none) vs).set v none = (wipe s vs).set v none
    by_cases h : v ∈ vs
    · rw [wipe_set h, wipe_wipe]
    · rw [wipe_out h, wipe_wipe, List.set_set]
theorem RepOs.append : ∀ {os : List O} {vs : List V} {M : List Addr} {o : O} {v : V} {L : List Addr}, RepOs K Hf H os vs M → RepO K Hf H o v L → RepOs K Hf H (os ++ [o]) (vs ++ [v]) (M ++ L)
  | [], _, _, o, v, L, h, h2 => by
    obtain ⟨h3, h4⟩ := h
    subst h3 h4
    exact ⟨v, [], L, [], rfl, by simp, h2, rfl, rfl⟩
  | x :: os, _, _, o, v, L, h, h2 => by
    obtain ⟨w, r, L1, L2, e1, e2, h3, h4⟩ := h
    subst e1 e2
    exact ⟨w, _, L1, L2 ++ L, rfl, by simp [List.append_assoc], h3, RepOs.append h4 h2⟩
def Cn.blk (c : Cn) : Cn := ⟨c.Hf0, c.H0, fun _ _ _ _ => False⟩
theorem so_lc {wi : TI} {g : TG} {tt : TT} {te : TE} {fi : Env → Res (List R)} {fg : FG} {vs : List Nat} (hi : SoI c K wi fi) (hg : SoG c.blk K g fg vs) (ht : SoT c.blk K tt ft) (he : SoE c.blk K te f) :
    SoE c K (tLc wi g tt te vs) (fun r => (fi r).bind fun its => if vs.all (· < r.length) then lcL fg ft f (wipeE r vs) its [] else .bad) := fun r s Hf0 H L sr Q q => by
  refine hi r s Hf0 H L sr _ ?_
  cases ei : fi r with
  | bad => simp only [ei, Res.bind] at q; exact q.elim
  | exc e' => simp only [ei, Res.bind] at q; exact q
  | ok its =>
    simp only [ei, Res.bind] at q
    by_cases hvs : vs.all (· < r.length) = true
    · rw [if_pos hvs] at q
      have hv' : ∀ v ∈ vs, v < r.length := fun v hv => of_decide_eq_true (List.all_eq_true.mp hvs v hv)
      intro J Hf1 H1 x1 wk D hD
      have sr1 := sr.mono x1
      have q := (pstE (c := c) (K := K) (s := s) (Q := Q)).mono _ _ _ _ _ x1 q
      refine ⟨fun i m H => m = its.length - i ∧ i ≤ its.length ∧ ∃ Hf acc us M, Ext Hf1 H1 Hf H ∧ H D = some (.lst us) ∧ RepOs K Hf H acc us M ∧ Nw H1 Hf H (D :: M) ∧ PostE c K s Hf1 H1 Q (lcL fg ft f (wipeE r vs) (its.drop i) acc),
        ⟨its.length, by simp, Nat.zero_le _, Hf1, [], [], [], Ext.new sr1.sub hD, upd_same, ⟨rfl, rfl⟩, ⟨by simp, fun a ha => ?_⟩, by simpa using q⟩, ?_⟩
      · have e : a = D := by simpa using ha
        subst e
        exact ⟨hD, sub_none sr1.sub hD, by rw [upd_same]; simp⟩
      rintro i m H ⟨rfl, hle, Hf, acc, us, M, x2, hDl, ha, nw, q⟩
      have sr2 := sr1.mono x2
      obtain ⟨w1, w2⟩ := wk Hf H x2.fsame x2.sub sr2.same0
      by_cases hlt : i < its.length
      · have hit : its[i]? = some its[i] := by simp [hlt]
        obtain ⟨go, yld⟩ := w1 i _ hit
        rw [List.drop_eq_getElem_cons hlt] at q
        refine .inr ⟨go, fun H' => ∃ Hf acc us M, Ext Hf1 H1 Hf H' ∧ H' D = some (.lst us) ∧ RepOs K Hf H' acc us M ∧ Nw H1 Hf H' (D :: M) ∧ PostE c K s Hf1 H1 Q (lcL fg ft f (wipeE r vs) (its.drop (i + 1)) acc),
          fun H' h => ⟨its.length - (i + 1), by omega, rfl, hlt, h⟩, fun x H3 hy => ?_⟩
        obtain ⟨Hf3, x3, a3⟩ := yld x H3 hy
        obtain ⟨Lw, srw, hwl, hsub⟩ := (sr2.mono x3).wipe vs hv'
        unfold lcL at q
        cases eg : fg its[i] (wipeE r vs) with
        | none => rw [eg] at q; exact q.elim
        | some r1 =>
          rw [eg] at q
          dsimp only at q
          refine hg _ x (wipeE r vs) r1 (wipe s vs) Hf3 H3 Lw ⟨srw.ext, srw.env, srw.nd, srw.fr, srw.ok, srw.rows⟩ a3 eg _ fun s1 L1 srb hw => ?_
          refine ⟨by rw [hw, wipe_wipe], ?_⟩
          refine ht r1 s1 Hf3 H3 L1 srb _ ?_
          have keepM : ∀ a ∈ D :: M, H a ≠ none := fun a ha => (nw.fr a ha).2.2
          cases et : ft r1 with
          | bad => rw [et] at q; exact q.elim
          | exc e' => rw [et] at q; exact q.elim
          | ok b =>
            intro Hf4 H4 x4
            cases b with
            | false =>
              rw [et] at q
              have xB := x3.trans x4
              exact ⟨Hf4, acc, us, M, x2.trans xB, xB.same.lst hDl, RepOs.mono xB.fsame acc us M ((RepOs.nx acc us M ha).kp xB.same) ha, ⟨nw.nd, fun a ha => ⟨(nw.fr a ha).1, xB.nf (keepM a ha) (nw.fr a ha).2.1, xB.same.ne_none (keepM a ha)⟩⟩, q⟩
            | true =>
              rw [et] at q
              dsimp only at q
              refine he r1 s1 Hf4 H4 L1 (srb.mono x4) _ ?_
              cases ef : f r1 with
              | bad => rw [ef] at q; exact q.elim
              | exc e' => rw [ef] at q; exact q.elim
              | ok y =>
                rw [ef] at q
                dsimp only at q
                intro v Hf5 H5 L5 x5 a5 n5
                cases y with
                | vw o => exact q.elim
                | bw o => exact q.elim
                | nw o =>
                  simp only [newO] at q
                  by_cases hz : acc.length ≤ 100000
                  · rw [if_pos hz] at q
                    have xB := (x3.trans x4).trans x5
                    have hD5 := xB.same.lst hDl
                    have hl : us.length = acc.length := RepOs.length ha
                    have nD : Hf5 D = none := xB.nf (keepM D List.mem_cons_self) (nw.fr D List.mem_cons_self).2.1
                    have new5 : ∀ a ∈ L5, a ∉ D :: M := fun a h5 hm => (x3.trans x4).same.ne_none (keepM a hm) (n5.fr a h5).1
                    have ndm := List.nodup_cons.mp nw.nd
                    refine ⟨us, hD5, Nat.lt_of_le_of_lt (show us.length ≤ 100000 by omega) (by decide), Hf5, acc ++ [o], us ++ [v], M ++ L5, ⟨fun a u e => ?_, (x2.trans xB).fsame, fun a u e => ?_, (x2.trans xB).keep, fun h => ((x2.trans xB).rows h).set hD5 (Hk.ne rfl)⟩, upd_same, ?_, ⟨?_, fun a ha' => ?_⟩, q⟩
                    · rw [upd_ne (ne_of_none e hD)]; exact (x2.trans xB).same a u e
                    · rw [upd_ne (ne_of_none e nD)]; exact xB.sub a u e
                    · refine RepOs.append (RepOs.mono xB.fsame acc us M (fun a hm u q => ?_) ha) (RepO.mono (Same.refl _) o v L5 (fun a hm u q => ?_) a5)
                      · rw [upd_ne (fun (e : a = D) => ndm.1 (by rw [← e]; exact hm))]; exact (RepOs.nx acc us M ha).kp xB.same a hm u q
                      · rw [upd_ne (fun e => new5 a hm (by rw [e]; exact List.mem_cons_self))]; exact q
                    · refine List.nodup_cons.mpr ⟨fun hm => ?_, List.nodup_append.mpr ⟨ndm.2, n5.nd, fun a h1 b h2 e => ?_⟩⟩
                      · rcases List.mem_append.mp hm with hm | hm
                        · exact ndm.1 hm
                        · exact new5 D hm List.mem_cons_self
                      · subst e; exact new5 a h2 (List.mem_cons_of_mem _ h1)
                    · rcases List.mem_cons.mp ha' with e | hm
                      · subst e
                        exact ⟨hD, nD, by rw [upd_same]; simp⟩
                      · rcases List.mem_append.mp hm with hm | hm
                        · have hm' := List.mem_cons_of_mem D hm
                          exact ⟨(nw.fr a hm').1, xB.nf (keepM a hm') (nw.fr a hm').2.1, by rw [upd_ne (fun (e : a = D) => ndm.1 (by rw [← e]; exact hm))]; exact xB.same.ne_none (keepM a hm')⟩
                        · refine ⟨?_, (n5.fr a hm).2.1, ?_⟩
                          · exact (x2.trans (x3.trans x4)).fresh (n5.fr a hm).1
                          · rw [upd_ne (fun e => new5 a hm (by rw [e]; exact List.mem_cons_self))]; exact (n5.fr a hm).2.2
                  · rw [if_neg hz] at q; exact q.elim
      · have e : i = its.length := by omega
        subst e
        rw [List.drop_length] at q
        exact .inl ⟨w2, q (.ref D) Hf H (D :: M) x2 ⟨D, us, M, rfl, hDl, ha, rfl⟩ nw⟩
    · rw [if_neg hvs] at q; exact q.elim
def eLcD (fi : Env → Res (List R)) (fg : FG) (vs : List Nat) (ft : Env → Res Bool) (f : FE) : FE := fun r => (fi r).bind fun its => if vs.all (· < r.length) then lcL fg ft f (wipeE r vs) its [] else .bad
abbrev blkE (X : Cx) (scope : Scope) (s : Shared) (H : Hp) (C : Addr) (cl : List (Str × Addr)) (fp : List Addr) : Cx := X.blk s H scope (compEnvC scope cl C X.env) fp
theorem all_E {scope : Scope} (h : ∀ s H C cl fp, DE c (blkE X scope s H C cl fp) e f) : ∃ te, (∀ s H C cl fp, PE (blkE X scope s H C cl fp) e te) ∧ SoE c X.K te f := by
  refine ⟨fun σ H Q => ∀ s H0 C cl fp, (h s H0 C cl fp).ex.choose σ H Q, fun s H0 C cl fp => ⟨fun pins s' σ H Q I q => (h s H0 C cl fp).ex.choose_spec.1.run pins s' σ H Q I (q s H0 C cl fp)⟩, fun r s Hf H L sr Q q s' H0 C cl fp => (h s' H0 C cl fp).ex.choose_spec.2 r s Hf H L sr Q q⟩
theorem all_G {scope : Scope} {tg : Expr} {fg : FG} {vs : List Nat} (h : ∀ s H C cl fp, DG c (blkE X scope s H C cl fp) tg fg vs) : ∃ te, (∀ s H C cl fp, PG (blkE X scope s H C cl fp) tg te) ∧ SoG c X.K te fg vs := by
  refine ⟨fun v σ H Q => ∀ s H0 C cl fp, (h s H0 C cl fp).ex.choose v σ H Q, fun s H0 C cl fp => ⟨fun pins s' σ H v u Q I rv q => (h s H0 C cl fp).ex.choose_spec.1.run pins s' σ H v u Q I rv (q s H0 C cl fp)⟩, fun x v r r1 s Hf H L sr a1 e Q q s' H0 C cl fp => (h s' H0 C cl fp).ex.choose_spec.2 x v r r1 s Hf H L sr a1 e Q q⟩
section
variable {k : Nat} {elt tg iter : Expr} {scope : Scope} {own : List (Str × Nat)} {fi : Env → Res (List R)} {fg : FG}
theorem de_lc (B : Bk c X k) (hN : X.N.Nodup) (hi : DI c X tg iter fi) (ok : BlkOk X.N X.env.scope scope own) (hg : ∀ s H C cl fp, DG c.blk (blkE X scope s H C cl fp) tg fg (own.map (·.2))) (he : ∀ s H C cl fp, DE c.blk (blkE X scope s H C cl fp) elt f)
    (hs : ∀ x, foldedSetIterable iter X.env x = pure x := by intro _; rfl) : DE c X (.ListComp elt [⟨tg, iter, [], 0⟩] scope pos) (eLcD fi fg (own.map (·.2)) tYesD f) := by
  obtain ⟨wi, p1, s1⟩ := hi.ex
  obtain ⟨g, p2, s2⟩ := all_G hg
  obtain ⟨te, p3, s3⟩ := all_E he
  refine ⟨_, pe_lc (own := own) B.calm hN p1 ok p2 (fun _ _ _ _ _ => pts_nil) p3 hs, so_lc s1 s2 (fun r s Hf H L sr Q q => q Hf H (Ext.refl sr.sub)) s3⟩
theorem ds_lc {i : Nat} {y : Str} {py : Pos} {spos : Pos} (own' : Bool) (B : Bk c X k) (hN : X.N.Nodup) (hy : X.N[i]? = some y) (hyl : X.env.scope.names.lookup y = some .local)
    (hsw : swapsWith (.ListComp elt [⟨tg, iter, [], 0⟩] scope pos) (some (.Name y py)) spos.line X.env = pure true) (hi : DI c X tg iter fi) (ok : BlkOk X.N X.env.scope scope own) (hg : ∀ s H C cl fp, DG c.blk (blkE X scope s H C cl fp) tg fg (own.map (·.2))) (he : ∀ s H C cl fp, DE c.blk (blkE X scope s H C cl fp) elt f)
    (hs : ∀ x, foldedSetIterable iter X.env x = pure x := by intro _; rfl) : DS c X (.Assign [.Name y py] (.ListComp elt [⟨tg, iter, [], 0⟩] scope pos) spos) (sSet i own' (eLcD fi fg (own.map (·.2)) tYesD f)) := by
  obtain ⟨wi, p1, s1⟩ := hi.ex
  obtain ⟨g, p2, s2⟩ := all_G hg
  obtain ⟨te, p3, s3⟩ := all_E he
  refine ⟨_, ps_setLc (own := own) B.calm hN hy hyl hsw p1 ok p2 (fun _ _ _ _ _ => pts_nil) p3 hs, so_set (so_lc s1 s2 (fun r s Hf H L sr Q q => q Hf H (Ext.refl sr.sub)) s3)⟩
theorem Bk.blk {s : Shared} {H : Hp} {C : Addr} {cl : List (Str × Addr)} {fp : List Addr} (B : Bk c X k) : Bk c.blk (blkE X scope s H C cl fp) k := ⟨B.hr, takes0, PassesOwn.never, B.calm⟩
end
end DL
namespace DL
open PySem L2
variable {c : Cn} {X : Cx} {a b e : Expr} {es : List Expr} {f g fa fb : FE} {pos : Pos} {fs : Env → Res (List O)} {K : PySem.W.Frag} {H0 H H' Hf Hf' : Hp} {F G : FS} {st : Stmt} {sts : List Stmt} {ft : Env → Res Bool}
theorem Ext.newT {p : Addr} {vs : List V} (sub : Same Hf H) (hp : H p = none) : Ext Hf H (upd Hf p (.tup vs)) (upd H p (.tup vs)) :=
  ⟨Same.sm fun a u e => by rw [upd_ne (ne_of_none e hp)]; exact e, fun a u e => by rw [upd_ne (ne_of_none e (sub_none sub hp))]; exact e, fun a u e => by
    by_cases ha : a = p
    · subst ha; rw [upd_same] at e ⊢; exact e
    · rw [upd_ne ha] at e ⊢; exact sub a u e, fun a h1 h2 => by
    by_cases ha : a = p
    · subst ha; exact absurd hp h1
    · rw [upd_ne ha] at h2; exact h2, fun h => h.fz hp (fun k => by obtain ⟨φ, z⟩ := isKn_ext k; cases φ <;> cases z) (fun _ _ _ z => nomatch z) (sub_none sub hp)⟩
def fzOf : R → Option D
  | .nw (.fz d) => some d
  | _ => none
def fzsOf : List R → Option (List D)
  | [] => some []
  | x :: xs => (fzOf x).bind fun d => (fzsOf xs).map (d :: ·)
theorem fzsOf_get : ∀ {its : List R} {ds : List D} {i : Nat} {d : D}, fzsOf its = some ds → ds[i]? = some d → its[i]? = some (.nw (.fz d))
  | [], ds, i, d, e, h => by
    have e' : ds = [] := by simpa [fzsOf] using e.symm
    subst e'; simp at h
  | x :: xs, ds, i, d, e, h => by
    cases e1 : fzOf x with
    | none => simp [fzsOf, e1] at e
    | some d1 =>
      cases e2 : fzsOf xs with
      | none => simp [fzsOf, e1, e2] at e
      | some ds1 =>
        have e' : d1 :: ds1 = ds := by simpa [fzsOf, e1, e2] using e
        subst e'
        cases i with
        | zero =>
          have h' : d1 = d := by simpa using h
          subst h'
          cases x with
          | nw o => cases o with
            | fz d0 => have e3 : d0 = d1 := Option.some.inj e1; subst e3; rfl
            | ls _ => cases e1
            | tp _ => cases e1
            | ob _ _ _ => cases e1
            | dt _ _ => cases e1
            | dk _ _ => cases e1
            | gh _ _ _ => cases e1
          | vw _ => cases e1
          | bw _ => cases e1
        | succ i => simpa using fzsOf_get (i := i) e2 (by simpa using h)
theorem fzsOf_length : ∀ {its : List R} {ds : List D}, fzsOf its = some ds → ds.length = its.length
  | [], ds, e => by have e' : ds = [] := by simpa [fzsOf] using e.symm
                    subst e'; rfl
  | x :: xs, ds, e => by
    cases e1 : fzOf x with
    | none => simp [fzsOf, e1] at e
    | some d1 =>
      cases e2 : fzsOf xs with
      | none => simp [fzsOf, e1, e2] at e
      | some ds1 =>
        have e' : d1 :: ds1 = ds := by simpa [fzsOf, e1, e2] using e
        subst e'
        simp [fzsOf_length e2]
def tup2 (a b : D) : R := .nw (.fz (.tup [a, b]))
def enumL (ds : List D) : List R := ds.zipIdx.map fun p => tup2 (.int (p.2 : Nat)) p.1
def enumR (its : List R) : Res (List R) := match fzsOf its with
  | some ds => .ok (enumL ds)
  | none => .bad
def iEnumD (f : FE) : Env → Res (List R) := fun r => (f r).bind fun x => (itsL x).bind enumR
theorem so_one {t : TE} (h : SoE c K t f) {r : Env} {s : St} {L : List Addr} (sr : c.SR K r s Hf H L) {β : Type} {post : Hp → Hp → Res β → Prop} (P : Pst c K s post) {k : R → Res β} (hp : post Hf H ((f r).bind k)) {Q : List V → Hp → Prop}
    (hq : ∀ x v Hf1 H1, Ext Hf H Hf1 H1 → c.SR K r s Hf1 H1 L → ArgR K c.H0 Hf1 H1 x v → post Hf1 H1 (k x) → Q [v] H1) : tCons t tNil s H Q :=
  h.run sr P hp fun x v Hf1 H1 x1 sr1 a1 q1 => hq x v Hf1 H1 x1 sr1 a1 q1
theorem itsL_exc {x : R} {e : Ec} : itsL x ≠ .exc e := by
  intro e1
  cases x <;> simp only [itsL] at e1 <;> (try split at e1) <;> cases e1
theorem di_enum {p pos tpos : Pos} {elts : List Expr} {kk : Nat} (hg : Gl X "enumerate") (hm : X.mg "enumerate" = none) (h : DE c X e f) (hs : starEach [e] X.env = [(false, eval e X.env)] := by rfl) (hs2 : starEach [e] X.env = (false, eval e X.env) :: starEach [] X.env := by rfl) :
    DI c X (.Tuple elts kk tpos) (.Call (.Name "enumerate" p) [e] [] pos) (iEnumD f) := by
  obtain ⟨t, pe, s⟩ := h.ex
  refine ⟨iEnum X.K (tCons t tNil), pi_enum hg hm (pa_cons pe pa_nil hs2) hs, fun r s' Hf H L sr Q q => ?_⟩
  refine so_one s sr pstI q fun x v Hf1 H1 x1 sr1 a1 q1 => ?_
  cases e1 : itsL x with
  | bad => rw [e1] at q1; exact q1.elim
  | exc e' => exact absurd e1 itsL_exc
  | ok its =>
    rw [e1] at q1
    have q1 : PostI c X.K s' Hf1 H1 Q (enumR its) := q1
    obtain ⟨a, vs, e2, hl, h1, h2⟩ := itsL_ok sr1.sub sr1.same0 a1 e1
    cases e3 : fzsOf its with
    | none => simp only [enumR, e3] at q1; exact q1.elim
    | some ds =>
      simp only [enumR, e3] at q1
      have hds := fzsOf_length e3
      refine ⟨a, vs, by rw [e2], h1, q1 (Ite X.K a) Hf1 H1 (Ext.refl sr1.sub) fun Hf2 H2 f1 f2 f3 => ?_⟩
      obtain ⟨g1, g2⟩ := h2 Hf2 H2 f1 f2 f3
      refine ⟨fun i it hi => ?_, ⟨vs, g1, by simp [enumL]; omega⟩⟩
      have hlt : i < ds.length := by
        have := (List.getElem?_eq_some_iff.mp hi).1
        simpa [enumL] using this
      have ei : (enumL ds)[i]? = some (tup2 (.int (i : Nat)) ds[i]) := by simp [enumL, hlt]
      rw [ei] at hi
      cases hi
      obtain ⟨w, hw, aw⟩ := g2 i _ (fzsOf_get e3 (show ds[i]? = some ds[i] by simp [hlt]))
      refine ⟨⟨vs, w, g1, hw⟩, fun x H3 ⟨T, y, ex, hT, eH, hx⟩ => ?_⟩
      have ew := hx vs g1
      rw [hw] at ew
      cases ew
      subst eH ex
      have xt := Ext.newT (vs := [.int (i : Nat), w]) f2 hT
      exact ⟨_, xt, T, [.int (i : Nat), w], rfl, upd_same, _, _, rfl, rfl, w, [], rfl, Rep.mono xt.fsame _ _ aw, rfl⟩
end DL
namespace DL
open PySem L2
variable {c : Cn} {X : Cx} {a b e : Expr} {es : List Expr} {f g fa fb : FE} {pos : Pos} {fs : Env → Res (List O)} {K : PySem.W.Frag} {H0 H H' Hf Hf' : Hp} {F G : FS} {st : Stmt} {sts : List Stmt} {ft : Env → Res Bool}
def sFrz (i : Nat) : FS := fun r => match r[i]? with
  | some (.vl true o) => .nx (r.set i (.vl true (.fz (er o))))
  | some (.vl false (.fz d)) => .nx (r.set i (.vl true (.fz d)))
  | _ => .bad
theorem SR.freeze {r : Env} {s : St} {L : List Addr} {i : Nat} {o : O} (sr : c.SR K r s Hf H L) (e : r[i]? = some (.vl true o)) : ∃ Hf2 L2, Same Hf Hf2 ∧ c.SR K (r.set i (.vl true (.fz (er o)))) s Hf2 H L2 := by
  obtain ⟨y, A, M, B, h1, h2, h3, h4⟩ := sr.env.at e
  cases y with
  | none => exact h3.elim
  | some v =>
    have hM : ∀ a ∈ M, a ∈ L := fun a ha => by rw [h2]; simp [ha]
    have nM : ∀ a ∈ M, Hf a = none := fun a ha => (sr.fr a (hM a ha)).1
    have f := addF_same (Hf := Hf) (H := H) nM
    have nd := sr.nd
    rw [h2] at nd
    simp only [List.nodup_append, List.mem_append] at nd
    obtain ⟨⟨n1, n2, d1⟩, n3, d2⟩ := nd
    have sub2 : ∀ a ∈ A ++ [] ++ B, a ∈ L := fun a ha => by
      rw [h2]; simp only [List.mem_append, List.not_mem_nil, or_false] at ha ⊢
      rcases ha with ha | ha
      · exact .inl (.inl ha)
      · exact .inr ha
    have out : ∀ a ∈ A ++ [] ++ B, a ∉ M := fun a ha hm => by
      simp only [List.mem_append, List.not_mem_nil, or_false] at ha
      rcases ha with ha | ha
      · exact d1 a ha a hm rfl
      · exact d2 a (.inr hm) a ha rfl
    have env' := h4 (addF Hf H M) H (.vl true (.fz (er o))) (some v) [] f Tst.rf (fun _ _ _ e => e) ⟨RepO.frozen _ f o v M (fun a ha => addF_in ha) h3, rfl⟩
    have es : s.set i (some v) = s := by
      obtain ⟨hl, hg⟩ := List.getElem?_eq_some_iff.mp h1
      rw [← hg]; exact List.set_getElem_self hl
    rw [es] at env'
    refine ⟨addF Hf H M, A ++ [] ++ B, f, ⟨⟨sr.ext.same, sr.ext.fsame.trans f, addF_sub sr.sub, fun a h1 h2 => ?_, fun h => (sr.ext.rows h).add (RepO.nx o v M h3) (RepO.nr o v M h3) nM⟩, env', ?_, fun a ha => ⟨by rw [addF_out (out a ha)]; exact (sr.fr a (sub2 a ha)).1, (sr.fr a (sub2 a ha)).2⟩, fun a ha => sr.ok a (sub2 a ha), sr.rows.add (RepO.nx o v M h3) (RepO.nr o v M h3) nM⟩⟩
    · by_cases ha : a ∈ M
      · exact absurd (sr.fr a (hM a ha)).2 h1
      · rw [addF_out ha] at h2; exact sr.ext.keep a h1 h2
    · simp only [List.append_nil, List.nodup_append]
      exact ⟨n1, n3, fun a ha b hb => d2 a (.inl ha) b hb⟩
theorem dss_frz (i : Nat) (h : DSs c X sts F) : DSs c X sts (sSeq (sFrz i) F) := by
  obtain ⟨t, p, s⟩ := h.ex
  refine ⟨t, p, fun r s' Hf H L sr D q => ?_⟩
  cases er1 : r[i]? with
  | none => simp only [sSeq, sFrz, er1] at q; exact q.elim
  | some x =>
    cases x with
    | un => simp only [sSeq, sFrz, er1] at q; exact q.elim
    | me _ _ => simp only [sSeq, sFrz, er1] at q; exact q.elim
    | tq _ => simp only [sSeq, sFrz, er1] at q; exact q.elim
    | lt _ _ => simp only [sSeq, sFrz, er1] at q; exact q.elim
    | fa _ => simp only [sSeq, sFrz, er1] at q; exact q.elim
    | vl w o =>
      cases w with
      | true =>
        simp only [sSeq, sFrz, er1] at q
        obtain ⟨Hf2, L2, f, sr2⟩ := sr.freeze er1
        exact s _ s' Hf2 H L2 sr2 D (q.mono f)
      | false =>
        cases o with
        | ls _ => simp only [sSeq, sFrz, er1] at q; exact q.elim
        | tp _ => simp only [sSeq, sFrz, er1] at q; exact q.elim
        | ob _ _ _ => simp only [sSeq, sFrz, er1] at q; exact q.elim
        | dt _ _ => simp only [sSeq, sFrz, er1] at q; exact q.elim
        | dk _ _ => simp only [sSeq, sFrz, er1] at q; exact q.elim
        | gh _ _ _ => simp only [sSeq, sFrz, er1] at q; exact q.elim
        | fz d =>
          simp only [sSeq, sFrz, er1] at q
          obtain ⟨y, A, M, B, h1, h2, h3, h4⟩ := sr.env.at er1
          cases y with
          | none => exact h3.elim
          | some v =>
            obtain ⟨h5, h6⟩ := h3
            subst h6
            have env' := h4 Hf H (.vl true (.fz d)) (some v) [] (Same.refl _) Tst.rf (fun _ _ _ e => e) ⟨h5, rfl⟩
            have es : s'.set i (some v) = s' := by
              obtain ⟨hl, hg⟩ := List.getElem?_eq_some_iff.mp h1
              rw [← hg]; exact List.set_getElem_self hl
            rw [es, ← h2] at env'
            exact s _ s' Hf H L ⟨sr.ext, env', sr.nd, sr.fr, sr.ok, sr.rows⟩ D q
section
variable {P : Program} {w : World} {mg : Str → Option Value} {base : Heap} {x qual : Str} {params : Arguments} {body : List Stmt} {scope : Scope} {fa : Addr} {fd : FuncData} {N ps : List Str} {k n : Nat}
theorem Def.ofD (Fn : FunD K x qual params body scope [] [] fa fd) (S : FnScope N ps scope) (hm : mg x = some (.ref fa)) (hb : Binds K fd ps []) (hn : ps.length = n) (F : FS)
    (hbody : ∀ (cdv : Value) (A : Around) (outer : List PySem.Env) (s : Shared) (H : Hp) (E : XK) (Hf : Hp), Bk ⟨Hf, H, fun cls d _ H' => E cls d H'⟩ (cxOf (L2.CX P w) P w K mg base N qual scope fa cdv A outer s H E) k →
      DSs ⟨Hf, H, fun cls d _ H' => E cls d H'⟩ (cxOf (L2.CX P w) P w K mg base N qual scope fa cdv A outer s H E) body F) : Def P w K mg base x (k + 1) n (runF N.length F) := by
  refine ⟨fa, fd, ps, ?_, hm, Fn.kp, hb, hn⟩
  subst hn
  refine Fn.ok S (fun vs H Q E h => ?_) (fun cdv A outer s H vs Q E hr h => ?_)
  · obtain ⟨Hf, os, _, _, h2, h3, _⟩ := h
    rw [RepVs.length h2, h3]
  · obtain ⟨Hf, os, sub, hro, h2, h3, h4⟩ := h
    have B : Bk ⟨Hf, H, fun cls d _ H' => E cls d H'⟩ (cxOf (L2.CX P w) P w K mg base N qual scope fa cdv A outer s H E) k := ⟨hr, takes_of rfl rfl rfl rfl, passes_of rfl, rfl⟩
    obtain ⟨t, p, so⟩ := (hbody cdv A outer s H E Hf B).ex
    refine ⟨t, p, ?_⟩
    have hl : vs.length = os.length := RepVs.length h2
    have sr : SR K Hf H (startE N.length os) (L2.start N vs) Hf H [] := by
      refine ⟨Ext.refl sub, ?_, List.nodup_nil, (fun _ h => nomatch h), (fun _ h => nomatch h), hro⟩
      unfold startE L2.start
      rw [hl]
      exact env_start h2
    refine so _ _ Hf H [] sr _ ?_
    unfold runF at h4
    cases e : F (startE N.length os) with
    | ret o => rw [e] at h4; exact fun v Hf' H' L _ x q n => h4 v Hf' H' L x q n
    | nx r => rw [e] at h4; exact fun s Hf' H' L f sr' => h4 .non Hf' H' [] sr'.ext ⟨rfl, rfl⟩ nw_nil
    | bk r => rw [e] at h4; exact h4.elim
    | ct r => rw [e] at h4; exact h4.elim
    | exc e' r => rw [e] at h4; exact fun s cls d Hf' H' L _ sr' h => h4 cls d Hf' H' sr'.ext h
    | bad => rw [e] at h4; exact h4.elim
def onlyAt (H : Hp) (a : Addr) : Hp := fun b => if b = a then (match H a with
  | some (.lst xs) => some (.lst xs)
  | some (.frz o u) => some (.frz o u)
  | _ => none) else none
theorem only_in {H : Hp} {a b : Addr} {o : HO} (h : onlyAt H a b = some o) : b = a ∧ H a = some o ∧ (∀ φ : Hk, o ≠ φ.o) ∧ ∀ C dx fs, o ≠ .ins C dx fs := by
  unfold onlyAt at h
  by_cases hb : b = a
  · rw [if_pos hb] at h
    refine ⟨hb, ?_⟩
    split at h
    · rename_i xs q
      cases h
      exact ⟨q, (Hk.ne rfl), fun _ _ _ z => (nomatch z)⟩
    · rename_i oo u q
      cases h
      exact ⟨q, (Hk.ne rfl), fun _ _ _ z => (nomatch z)⟩
    · cases h
  · rw [if_neg hb] at h; cases h
theorem only_same {H : Hp} {a : Addr} : Same (onlyAt H a) H := fun b o h => by
  obtain ⟨e, h1, _⟩ := only_in h
  subst e; exact h1
theorem only_rows {T : List Addr} {H : Hp} {a : Addr} (t : TabsA T H) : Rows T (onlyAt H a) H where
  tabs := t
  nk := fun b o h k => by
    obtain ⟨_, _, n, _⟩ := only_in h
    obtain ⟨φ, z⟩ := isKn_ext k
    exact n φ z
  at_ := fun b C dx k r f h => by
    obtain ⟨_, _, _, n⟩ := only_in h
    exact absurd rfl (n _ _ _)
theorem only_seq {K : PySem.W.Frag} {H : Hp} {a : Addr} {xs : List V} (h : SqL K H a xs) : SqL K (onlyAt H a) a xs := by
  rcases h with (h | ⟨o, h⟩) | h
  · exact .inl (.inl (by unfold onlyAt; rw [if_pos rfl, h]))
  · exact .inl (.inr ⟨o, by unfold onlyAt; rw [if_pos rfl, h]⟩)
  · exact .inr h
def spLaw (K : PySem.W.Frag) : Sp := fun vs H Q _ => ∃ (a : Addr) (ns : List Int), vs = [.ref a] ∧ SqL K H a (ns.map V.int) ∧ ns.length ≤ 63 ∧ TabsA (tK K) H ∧ ∀ H', Q (.bl true) H'
theorem law_ok {y : Str} (Fn : FunD K x qual params body scope [] [] fa fd) (S : FnScope N [y] scope) (F : FS)
    (hbody : ∀ (cdv : Value) (A : Around) (outer : List PySem.Env) (s : Shared) (H : Hp) (E : XK) (Hf : Hp), Bk ⟨Hf, H, fun _ _ _ _ => False⟩ (cxOf CX0 P w K mg base N qual scope fa cdv A outer s H E).nox k →
      DSs ⟨Hf, H, fun _ _ _ _ => False⟩ (cxOf CX0 P w K mg base N qual scope fa cdv A outer s H E).nox body F)
    (hlaw : ∀ ns : List Int, ns.length ≤ 63 → runF N.length F [.fz (.scr ns)] = .ok (.fz (.bl true))) : FnOk P w K mg base CX0 (k + 1) fa fd [y] (spLaw K) := by
  refine Fn.ok S (fun vs H Q E h => ?_) (fun cdv A outer s H vs Q E hr h => ?_)
  · obtain ⟨a, ns, rfl, _⟩ := h
    rfl
  · obtain ⟨a, ns, rfl, hS, hl, ht, hq⟩ := h
    have B : Bk ⟨onlyAt H a, H, fun _ _ _ _ => False⟩ (cxOf CX0 P w K mg base N qual scope fa cdv A outer s H E).nox k := ⟨hr, takes0, PassesOwn.never, rfl⟩
    obtain ⟨t, p, so⟩ := (hbody cdv A outer s H E (onlyAt H a) B).ex
    refine ⟨t, p.nox, ?_⟩
    have h2 : RepVs K (onlyAt H a) H [.fz (.scr ns)] [.ref a] := ⟨_, _, rfl, ⟨a, rfl, only_seq hS⟩, rfl⟩
    have sr : SR K (onlyAt H a) H (startE N.length [.fz (.scr ns)]) (L2.start N [.ref a]) (onlyAt H a) H [] := by
      refine ⟨Ext.refl only_same, ?_, List.nodup_nil, (fun _ h => nomatch h), (fun _ h => nomatch h), only_rows ht⟩
      unfold startE L2.start
      exact env_start h2
    refine so _ _ (onlyAt H a) H [] sr _ ?_
    have h4 := hlaw ns hl
    unfold runF at h4
    cases e : F (startE N.length [.fz (.scr ns)]) with
    | ret o =>
      rw [e] at h4
      cases h4
      exact fun v Hf' H' L _ x q n => by
        have q' : v = .bl true := q.1
        subst q'
        exact hq H'
    | nx r => rw [e] at h4; cases h4
    | bk r => rw [e] at h4; cases h4
    | ct r => rw [e] at h4; cases h4
    | exc e' r => rw [e] at h4; cases h4
    | bad => rw [e] at h4; cases h4
end
end DL
namespace DL
open PySem L2
variable {c : Cn} {X : Cx} {a b e : Expr} {es : List Expr} {f g fa fb : FE} {pos : Pos} {fs : Env → Res (List O)} {K : PySem.W.Frag} {H0 H H' Hf Hf' : Hp} {F G : FS} {st : Stmt} {sts : List Stmt} {ft : Env → Res Bool}
structure Rx (K : PySem.W.Frag) (mg : Str → Option Value) (x : Str) : Prop where
  q : PySem.W.excIn K (He.ga K x) He.veBase "ValueError.__new__" = true
  g : mg x = some (.ref (He.ga K x))
  k : PySem.W.keepIn K (.ref (He.ga K x)) = true
  s : PySem.W.subIn K (.ref (He.ga K x)) (.type "BaseException") = some true
  t : PySem.W.typeIn K (.ref (He.ga K x)) = some (.type "type")
  n : PySem.W.nsIn K mainGlobals x = some (some (.ref (He.ga K x)))
theorem Rx.of {mg : Str → Option Value} {h : Heap} {x : Str} (Y : K.In h) (G : h.Ns mainGlobals mg) (c1 : (He.Fa.glo x).ok K = true) (c2 : (He.Fa.exc x).ok K = true) : Rx K mg x := by
  obtain ⟨h1, h2, h3, h4⟩ := He.exc_ok c2
  exact ⟨h1, He.glo_ok Y G c1, h2, h3, h4, He.eqO_ok c1⟩
def sRaise (x : Str) : FS := fun r => .exc ⟨x, []⟩ r
theorem ds_raise {k : Nat} {x m : Str} {j : Nat} {p p2 pos2 : Pos} (R : Rx X.K X.mg x) (B : Bk c X k) (hg : Gl X x) (hdb : (x == ("__debug__" : Str)) = false := by decide) :
    DS c X (.Raise (some (.Call (.Name x p) [.Constant (.str m) j p2] [] pos)) none pos2) (sRaise x) :=
  ⟨_, ps_raise B.calm B.tk (pmk_own PySem.F.excBase_ValueError R.q R.g R.k (raises_own R.s R.t) hg hdb), fun r s Hf H L sr D q => q s (.ref (He.ga X.K x)) none Hf H L (Same.refl _) sr ⟨_, rfl, R.n, rfl⟩⟩
section
variable {pins : List (Addr × Obj)} {σ : St} {s : Shared}
end
section
variable {x n : Str} {cv : Value} {i : Nat} {body suite : List Stmt} {b₀ : Stmt} {np pos' : Pos} {tb : WX → TS} {ts : TS} {Wout : WX}
end
def offS (i : Nat) : Out → Out
  | .nx r => .nx (r.set i .un)
  | .bk r => .bk (r.set i .un)
  | .ct r => .ct (r.set i .un)
  | .ret o => .ret o
  | _ => .bad
abbrev Cn.wi (c : Cn) (W : Wx) : Cn := ⟨c.Hf0, c.H0, W⟩
theorem SR.unset {r : Env} {s : St} {L : List Addr} {i : Nat} (sr : c.SR K r s Hf H L) (hi : i < r.length) : ∃ L', c.SR K (r.set i .un) (s.set i none) Hf H L' := by
  obtain ⟨L', h, _⟩ := sr.wipe [i] (fun v hv => by
    have e : v = i := by simpa using hv
    subst e; exact hi)
  exact ⟨L', h⟩
theorem Ext.known {x : Addr} {o : HO} (sub : Same Hf H) (hx : H x = none) (n1 : ¬ isKn o) (n2 : ∀ C dx fs, o = .ins C dx fs → fs.map (·.1) ≠ rowNs) : Ext Hf H (upd Hf x o) (upd H x o) :=
  ⟨Same.sm fun a u e => by rw [upd_ne (ne_of_none e hx)]; exact e, fun a u e => by rw [upd_ne (ne_of_none e (sub_none sub hx))]; exact e, fun a u e => by
    by_cases ha : a = x
    · subst ha; rw [upd_same] at e ⊢; exact e
    · rw [upd_ne ha] at e ⊢; exact sub a u e, fun a h1 h2 => by
    by_cases ha : a = x
    · subst ha; exact absurd hx h1
    · rw [upd_ne ha] at h2; exact h2, fun h => h.fz hx n1 n2 (sub_none sub hx)⟩
section
variable {x n : Str} {cv : Value} {i k : Nat} {body suite : List Stmt} {b₀ : Stmt} {np pos' : Pos} {tab : List (Str × Bool)}
end
end DL
namespace DL
open PySem L2
variable {c : Cn} {X : Cx} {a b e : Expr} {es : List Expr} {f g fa fb : FE} {pos : Pos} {fs : Env → Res (List O)} {K : PySem.W.Frag} {H0 H H' Hf Hf' : Hp} {F G : FS} {st : Stmt} {sts : List Stmt} {ft : Env → Res Bool}
structure IsT (K : PySem.W.Frag) (u : Value) (tab : List (Str × Bool)) : Prop where
  non : PySem.W.kitOne K (.type "NoneType") u = some false
  exc : ∀ n b, tab.lookup n = some b → ∀ D, PySem.W.nsIn K mainGlobals n = some (some (.ref D)) → ExcC K D ∧ PySem.W.kitOne K (.ref D) u = some b
inductive Ask where | own (x : Str) | ve
def Ask.v (K : PySem.W.Frag) : Ask → Value
  | .own x => .ref (He.ga K x)
  | .ve => .type "ValueError"
abbrev AlY : Type := He.AlD × Bool
end DL
namespace DL
open PySem PySem.Spec PyProof.Rows L2
variable {c : Cn} {X : Cx} {a b e : Expr} {es : List Expr} {f g fa fb : FE} {pos : Pos} {fs : Env → Res (List O)} {K : PySem.W.Frag} {H0 H H' Hf Hf' : Hp} {F G : FS} {st : Stmt} {sts : List Stmt} {ft : Env → Res Bool}
def stepL {α : Type} (xs : List α) (lo hi st : Option Int) : List α := (sliceRange (sliceBounds lo hi st xs.length).1 (sliceBounds lo hi st xs.length).2.1 (sliceBounds lo hi st xs.length).2.2).filterMap (xs[·]?)
theorem RepVs.none_of {os : List O} {vs : List V} {i : Nat} (h : RepVs K Hf H os vs) (e : os[i]? = none) : vs[i]? = none := by
  rw [List.getElem?_eq_none_iff] at e ⊢
  rw [RepVs.length h]; exact e
theorem RepVs.pick {os : List O} {vs : List V} (h : RepVs K Hf H os vs) : ∀ ix : List Nat, RepVs K Hf H (ix.filterMap (os[·]?)) (ix.filterMap (vs[·]?))
  | [] => rfl
  | i :: ix => by
    cases e : os[i]? with
    | none =>
      rw [List.filterMap_cons_none e, List.filterMap_cons_none (h.none_of e)]
      exact RepVs.pick h ix
    | some o =>
      obtain ⟨v, h1, h2⟩ := RepVs.get h e
      rw [List.filterMap_cons_some e, List.filterMap_cons_some h1]
      exact ⟨v, _, rfl, h2, RepVs.pick h ix⟩
theorem RepVs.step {os : List O} {vs : List V} (h : RepVs K Hf H os vs) (lo hi st : Option Int) : RepVs K Hf H (stepL os lo hi st) (stepL vs lo hi st) := by
  unfold stepL
  rw [RepVs.length h]
  exact h.pick _
def minL (x : Int) (xs : List Int) : Int := xs.foldl (fun a b => if b < a then b else a) x
def maxL (x : Int) (xs : List Int) : Int := xs.foldl (fun a b => if a < b then b else a) x
theorem minL_le : ∀ (xs : List Int) (x : Int), minL x xs ≤ x ∧ ∀ y ∈ xs, minL x xs ≤ y
  | [], x => ⟨Int.le_refl _, fun _ h => nomatch h⟩
  | a :: xs, x => by
    by_cases h : a < x
    · have e : minL x (a :: xs) = minL a xs := by show minL (if a < x then a else x) xs = _; rw [if_pos h]
      obtain ⟨h1, h2⟩ := minL_le xs a
      rw [e]
      refine ⟨by omega, fun y hy => ?_⟩
      rcases List.mem_cons.mp hy with h | h
      · rw [h]; exact h1
      · exact h2 y h
    · have e : minL x (a :: xs) = minL x xs := by show minL (if a < x then a else x) xs = _; rw [if_neg h]
      obtain ⟨h1, h2⟩ := minL_le xs x
      rw [e]
      refine ⟨h1, fun y hy => ?_⟩
      rcases List.mem_cons.mp hy with h | h
      · rw [h]; omega
      · exact h2 y h
theorem minL_mem : ∀ (xs : List Int) (x : Int), minL x xs ∈ x :: xs
  | [], x => List.mem_cons_self
  | a :: xs, x => by
    by_cases h : a < x
    · have e : minL x (a :: xs) = minL a xs := by show minL (if a < x then a else x) xs = _; rw [if_pos h]
      rw [e]
      exact List.mem_cons_of_mem _ (minL_mem xs a)
    · have e : minL x (a :: xs) = minL x xs := by show minL (if a < x then a else x) xs = _; rw [if_neg h]
      rw [e]
      rcases List.mem_cons.mp (minL_mem xs x) with h | h
      · rw [h]; exact List.mem_cons_self
      · exact List.mem_cons_of_mem _ (List.mem_cons_of_mem _ h)
theorem maxL_ge : ∀ (xs : List Int) (x : Int), x ≤ maxL x xs ∧ ∀ y ∈ xs, y ≤ maxL x xs
  | [], x => ⟨Int.le_refl _, fun _ h => nomatch h⟩
  | a :: xs, x => by
    by_cases h : x < a
    · have e : maxL x (a :: xs) = maxL a xs := by show maxL (if x < a then a else x) xs = _; rw [if_pos h]
      obtain ⟨h1, h2⟩ := maxL_ge xs a
      rw [e]
      refine ⟨by omega, fun y hy => ?_⟩
      rcases List.mem_cons.mp hy with h | h
      · rw [h]; exact h1
      · exact h2 y h
    · have e : maxL x (a :: xs) = maxL x xs := by show maxL (if x < a then a else x) xs = _; rw [if_neg h]
      obtain ⟨h1, h2⟩ := maxL_ge xs x
      rw [e]
      refine ⟨h1, fun y hy => ?_⟩
      rcases List.mem_cons.mp hy with h | h
      · rw [h]; omega
      · exact h2 y h
theorem maxL_mem : ∀ (xs : List Int) (x : Int), maxL x xs ∈ x :: xs
  | [], x => List.mem_cons_self
  | a :: xs, x => by
    by_cases h : x < a
    · have e : maxL x (a :: xs) = maxL a xs := by show maxL (if x < a then a else x) xs = _; rw [if_pos h]
      rw [e]
      exact List.mem_cons_of_mem _ (maxL_mem xs a)
    · have e : maxL x (a :: xs) = maxL x xs := by show maxL (if x < a then a else x) xs = _; rw [if_neg h]
      rw [e]
      rcases List.mem_cons.mp (maxL_mem xs x) with h | h
      · rw [h]; exact List.mem_cons_self
      · exact List.mem_cons_of_mem _ (List.mem_cons_of_mem _ h)
end DL
namespace DL
open PySem L2
abbrev I (i : Int) : O := .fz (.int i)
abbrev VI (i : Int) : S := .vl true (.fz (.int i))
abbrev iL (xs : List Int) : List O := xs.map fun i => .fz (.int i)
def slotN (i : Nat) (r : Env) : Nat := match r[i]? with
  | some (.vl _ (.fz (.int k))) => k.natAbs
  | _ => 0
section
variable {r r' : Env} {f g : FE} {F G : FS} {ft ft2 : Env → Res Bool}
@[simp] theorem res_ok {α β : Type} (a : α) (k : α → Res β) : (Res.ok a).bind k = k a := (rfl)
@[simp] theorem res_exc {α β : Type} (e : Ec) (k : α → Res β) : (Res.exc e).bind k = .exc e := (rfl)
@[simp] theorem res_bad {α β : Type} (k : α → Res β) : (Res.bad : Res α).bind k = .bad := (rfl)
@[simp] theorem see_fz (w : Bool) (d : D) : see w (.fz d) = .nw (.fz d) := (rfl)
@[simp] theorem see_ls (os : List O) : see true (.ls os) = .vw (.ls os) := (rfl)
@[simp] theorem see_lsB (os : List O) : see false (.ls os) = .bw (.ls os) := (rfl)
@[simp] theorem ra_nw (o : O) : (R.nw o).a = .fz (er o) := (rfl)
@[simp] theorem ra_vw (o : O) : (R.vw o).a = o := (rfl)
@[simp] theorem ra_bw (o : O) : (R.bw o).a = o := (rfl)
@[simp] theorem er_fz (d : D) : er (.fz d) = d := (rfl)
@[simp] theorem put_nwT (o : O) : put true (.nw o) = some (.vl true o) := (rfl)
@[simp] theorem put_nwF (o : O) : put false (.nw o) = some (.vl true (.fz (er o))) := (rfl)
@[simp] theorem put_bw (w : Bool) (o : O) : put w (.bw o) = some (.vl false o) := by cases w <;> rfl
@[simp] theorem eC_ev (d : D) : eC d r = .ok (.nw (.fz d)) := (rfl)
@[simp] theorem fzR_ev (d : D) : fzR d = .ok (.nw (.fz d)) := (rfl)
@[simp] theorem eOp_ev (h : O → O → Res R) : eOp h f g r = (f r).bind fun x => (g r).bind fun y => h x.a y.a := (rfl)
@[simp] theorem eUn_ev (h : O → Res R) : eUn h f r = (f r).bind fun x => h x.a := (rfl)
@[simp] theorem tOf_ev : tOf f r = (f r).bind toB := (rfl)
@[simp] theorem toB_ev (b : Bool) : toB (.nw (.fz (.bl b))) = .ok b := (rfl)
@[simp] theorem gAdd_ev (i j : Int) : gAddA (.fz (.int i)) (.fz (.int j)) = .ok (.nw (.fz (.int (i + j)))) := (rfl)
@[simp] theorem gSub_ev (i j : Int) : gSub (.fz (.int i)) (.fz (.int j)) = .ok (.nw (.fz (.int (i - j)))) := (rfl)
theorem gMul_ev {i j : Int} (h : i.natAbs.log2 + j.natAbs.log2 < 100000000) : gMulA (.fz (.int i)) (.fz (.int j)) = .ok (.nw (.fz (.int (i * j)))) := by
  show (if mulOk i j = true then fzR (.int (i * j)) else .bad) = _
  rw [if_pos (show mulOk i j = true from decide_eq_true h)]; rfl
theorem gDiv_ev {i j : Int} (h : j ≠ 0) (h2 : j.natAbs.log2 < 9000) : gDiv (.fz (.int i)) (.fz (.int j)) = .ok (.nw (.fz (.int (i.fdiv j)))) := by
  show (if divOk i j = true then fzR (.int (i.fdiv j)) else .bad) = _
  rw [if_pos (show divOk i j = true from decide_eq_true ⟨h, h2⟩)]; rfl
theorem gMod_ev {i j : Int} (h : j ≠ 0) : gMod (.fz (.int i)) (.fz (.int j)) = .ok (.nw (.fz (.int (i.fmod j)))) := by
  show (if modOk i j = true then fzR (.int (i.fmod j)) else .bad) = _
  rw [if_pos (show modOk i j = true from decide_eq_true h)]; rfl
@[simp] theorem gLt_ev (i j : Int) : gLt (.fz (.int i)) (.fz (.int j)) = .ok (.nw (.fz (.bl (decide (i < j))))) := (rfl)
@[simp] theorem gLe_ev (i j : Int) : gLe (.fz (.int i)) (.fz (.int j)) = .ok (.nw (.fz (.bl (decide (i ≤ j))))) := (rfl)
@[simp] theorem gGt_ev (i j : Int) : gGt (.fz (.int i)) (.fz (.int j)) = .ok (.nw (.fz (.bl (decide (j < i))))) := (rfl)
@[simp] theorem gGe_ev (i j : Int) : gGe (.fz (.int i)) (.fz (.int j)) = .ok (.nw (.fz (.bl (decide (j ≤ i))))) := (rfl)
@[simp] theorem gEq_ev (i j : Int) : gEq (.fz (.int i)) (.fz (.int j)) = .ok (.nw (.fz (.bl (decide (i = j))))) := (rfl)
@[simp] theorem gNe_ev (i j : Int) : gNe (.fz (.int i)) (.fz (.int j)) = .ok (.nw (.fz (.bl (!decide (i = j))))) := (rfl)
@[simp] theorem gNeg_ev (i : Int) : gNeg (.fz (.int i)) = .ok (.nw (.fz (.int (-i)))) := (rfl)
@[simp] theorem aNil_ev : aNil r = .ok [] := (rfl)
@[simp] theorem aCons_ev (fs : Env → Res (List O)) : aCons f fs r = (f r).bind fun x => (fs r).bind fun xs => .ok (x.a :: xs) := (rfl)
@[simp] theorem eCall_ev (M : List O → Res O) (fs : Env → Res (List O)) : eCall M fs r = (fs r).bind fun os => (M os).bind fun o => .ok (.nw o) := (rfl)
@[simp] theorem eB_ev (h : List O → Res R) (fs : Env → Res (List O)) : eB h fs r = (fs r).bind h := (rfl)
@[simp] theorem gAbs_ev (i : Int) : gAbs [.fz (.int i)] = .ok (.nw (.fz (.int (if i < 0 then -i else i)))) := (rfl)
@[simp] theorem gMax_ev (i j : Int) : gMax2 [.fz (.int i), .fz (.int j)] = .ok (.nw (.fz (.int (if j > i then j else i)))) := (rfl)
@[simp] theorem gMin_ev (i j : Int) : gMin2 [.fz (.int i), .fz (.int j)] = .ok (.nw (.fz (.int (if j < i then j else i)))) := (rfl)
@[simp] theorem sSeq_ev : sSeq F G r = (match F r with | .nx r' => G r' | o => o) := (rfl)
@[simp] theorem sNil_ev : sNil r = .nx r := (rfl)
@[simp] theorem sSet_ev (i : Nat) (w : Bool) : sSet i w f r = (match f r with | .ok x => setS r i (put w x) | .exc e => .exc e r | .bad => .bad) := (rfl)
@[simp] theorem setS_ev (i : Nat) (y : S) : setS r i (some y) = if i < r.length then .nx (r.set i y) else .bad := (rfl)
@[simp] theorem sRet_ev : sRet f r = (match f r with | .ok x => retR x | .exc e => .exc e r | .bad => .bad) := (rfl)
@[simp] theorem retR_ev (o : O) : retR (.nw o) = .ret o := (rfl)
@[simp] theorem sIf_ev : sIf ft F G r = (match ft r with | .ok b => if b then F r else G r | .exc e => .exc e r | .bad => .bad) := (rfl)
@[simp] theorem tAnd_ev : tAndD ft ft2 r = (ft r).bind fun b => if b then ft2 r else .ok false := (rfl)
@[simp] theorem tOr_ev : tOrD ft ft2 r = (ft r).bind fun b => if b then .ok true else ft2 r := (rfl)
@[simp] theorem tNot_ev : tNotD ft r = (ft r).bind fun b => .ok (!b) := (rfl)
@[simp] theorem tYes_ev : tYesD r = .ok true := (rfl)
end
section
variable {fg : FG} {F : FS} {ft : Env → Res Bool} {f : FE} {r r' r1 : Env} {n : Nat}
theorem whl_t (h : ft r = .ok true) (h2 : F r = .nx r') : whl ft F (n + 1) r = whl ft F n r' := by simp [whl, h, h2]
theorem whl_f (h : ft r = .ok false) : whl ft F (n + 1) r = .nx r := by simp [whl, h]
theorem forL_nil : forL fg F [] r = .nx r := (rfl)
theorem forL_cons {x : R} {xs : List R} (h : fg x r = some r1) (h2 : F r1 = .nx r') : forL fg F (x :: xs) r = forL fg F xs r' := by simp [forL, h, h2]
theorem forL_inv {its : List R} (P : Nat → Env → Prop) (h0 : P 0 r) (step : ∀ (i : Nat) x r, its[i]? = some x → P i r → ∃ r1 r', fg x r = some r1 ∧ F r1 = .nx r' ∧ P (i + 1) r') : ∃ r', forL fg F its r = .nx r' ∧ P its.length r' := by
  have go : ∀ (l : List R) (i : Nat) (r : Env), (∀ (j : Nat) x, l[j]? = some x → its[i + j]? = some x) → P i r → ∃ r', forL fg F l r = .nx r' ∧ P (i + l.length) r' := by
    intro l
    induction l with
    | nil => intro i r _ p; exact ⟨r, rfl, p⟩
    | cons x l ih =>
      intro i r hl p
      obtain ⟨r1, r2, e1, e2, p2⟩ := step i x r (by simpa using hl 0 x rfl) p
      obtain ⟨r3, e3, p3⟩ := ih (i + 1) r2 (fun j y hy => by have := hl (j + 1) y (by simpa using hy); rw [show i + 1 + j = i + (j + 1) by omega]; exact this) p2
      exact ⟨r3, by rw [forL_cons e1 e2]; exact e3, by rw [List.length_cons, show i + (l.length + 1) = i + 1 + l.length by omega]; exact p3⟩
  obtain ⟨r', e, p⟩ := go its 0 r (fun j x h => by simpa using h) h0
  exact ⟨r', e, by simpa using p⟩
end
@[simp] theorem gN_ev (i : Nat) (o : O) (r : Env) : gN i (.nw o) r = if i < r.length then some (r.set i (.vl true (.fz (er o)))) else none := (rfl)
theorem ers_iL (xs : List Int) : ers (iL xs) = xs.map .int := by rw [ers_eq, List.map_map]; rfl
@[simp] theorem er_ls (os : List O) : er (.ls os) = .lst (ers os) := (rfl)
theorem allFz_iL (xs : List Int) : allFz (iL xs) = true := by induction xs with
  | nil => rfl
  | cons x xs ih => exact ih
@[simp] theorem items_ls (os : List O) : items (.ls os) = some os := (rfl)
@[simp] theorem items_lst_ev (ds : List D) : items (.fz (.lst ds)) = some (ds.map .fz) := (rfl)
@[simp] theorem items_scr (ns : List Int) : items (.fz (.scr ns)) = some (iL ns) := (rfl)
theorem items_int (xs : List Int) : items (.fz (.lst (xs.map .int))) = some (iL xs) := by simp [iL]
@[simp] theorem gLen_ls (os : List O) : gLen [.ls os] = .ok (.nw (.fz (.int os.length))) := (rfl)
theorem lsR_ev {os : List O} (h : allFz os = true) (h2 : os.length ≤ 100000) : lsR os = .ok (.nw (.ls os)) := by
  unfold lsR
  rw [if_pos h2, if_pos h]
@[simp] theorem pNone_ev (r : Env) : pNone r = .ok none := (rfl)
@[simp] theorem eIsi_ev (T : Ty) (f : FE) (r : Env) : eIsi T f r = (f r).bind fun x => match tyO x.a with | some t => fzR (.bl (isT t T)) | none => .bad := (rfl)
@[simp] theorem iRng_ev (g : List O → Res (List R)) (fs : Env → Res (List O)) (r : Env) : iRng g fs r = (fs r).bind g := (rfl)
@[simp] theorem sFor_ev (fi : Env → Res (List R)) (fg : FG) (F : FS) (r : Env) : sFor fi fg F r = (match fi r with | .ok its => forL fg F its r | .exc e => .exc e r | .bad => .bad) := (rfl)
theorem atI_ok {α : Type} {xs : List α} {k : Int} {v : α} (h0 : 0 ≤ k) (h : xs[k.toNat]? = some v) : atI xs k = some v := by
  have hj : k.toNat < xs.length := (List.getElem?_eq_some_iff.mp h).1
  have e : ixN xs.length k = some k.toNat := by unfold ixN; rw [if_pos h0, if_pos (by omega)]
  unfold atI
  rw [e]; exact h
theorem gDiv_pos {i j : Int} (h : 0 < j) (h2 : j < 1073741824) : gDiv (.fz (.int i)) (.fz (.int j)) = .ok (.nw (.fz (.int (i.fdiv j)))) := by
  refine gDiv_ev (by omega) ?_
  have e : j.natAbs < 2 ^ 30 := by omega
  have := PySem.Flt.log2_lt_of (by decide : 0 < 30) e
  omega
theorem gMul_lt {i j : Int} (a b : Nat) (ha : i.natAbs < 2 ^ a) (hb : j.natAbs < 2 ^ b) (h0 : 0 < a) (h1 : 0 < b) (h : a + b ≤ 100000000) : gMulA (.fz (.int i)) (.fz (.int j)) = .ok (.nw (.fz (.int (i * j)))) := by
  refine gMul_ev ?_
  have x := PySem.Flt.log2_lt_of h0 ha
  have y := PySem.Flt.log2_lt_of h1 hb
  omega
section
variable {F G : FS} {r r' : Env} {o : Out} {ft : Env → Res Bool} {fg : FG} {fi : Env → Res (List R)} {its : List R} {f : FE} {x : R} {y : S}
theorem seq_go (h : F r = .nx r') (h2 : G r' = o) : sSeq F G r = o := by simp [h, h2]
theorem seq_ret {z : O} (h : F r = .ret z) : sSeq F G r = .ret z := by simp [h]
theorem if_t (h : ft r = .ok true) (h2 : F r = o) : sIf ft F G r = o := by simp [h, h2]
theorem if_f (h : ft r = .ok false) (h2 : G r = o) : sIf ft F G r = o := by simp [h, h2]
theorem for_go (h : fi r = .ok its) (h2 : forL fg F its r = o) : sFor fi fg F r = o := by simp [h, h2]
theorem set_go {i : Nat} {w : Bool} (h : f r = .ok x) (h2 : put w x = some y) (h3 : i < r.length) : sSet i w f r = .nx (r.set i y) := by simp [h, h2, h3]
theorem ret_go {z : O} (h : f r = .ok (.nw z)) : sRet f r = .ret z := by simp [h]
theorem run_ret {n : Nat} {os : List O} {z : O} (h : F (startE n os) = .ret z) : runF n F os = .ok z := by simp [runF, h]
theorem run_exc {n : Nat} {os : List O} {e : Ec} (h : F (startE n os) = .exc e r') : runF n F os = .exc e := by simp [runF, h]
end
theorem rng1_ok {n : Int} (h : 0 ≤ n) (h2 : n < 2 ^ 62) : rng1 [.fz (.int n)] = .ok (rngL 0 n.toNat) := by
  show (if small62 n = true then Res.ok (rngL 0 n.toNat) else .bad) = _
  rw [if_pos (show small62 n = true from decide_eq_true ⟨by omega, h2⟩)]
theorem rng2_ok {a b : Int} (h : -(2 ^ 62) ≤ a) (h2 : a < 2 ^ 62) (h3 : -(2 ^ 62) ≤ b) (h4 : b < 2 ^ 62) : rng2 [.fz (.int a), .fz (.int b)] = .ok (rngL a (b - a).toNat) := by
  show (if (small62 a && small62 b) = true then Res.ok (rngL a (b - a).toNat) else .bad) = _
  rw [if_pos (show (small62 a && small62 b) = true by rw [Bool.and_eq_true]; exact ⟨decide_eq_true ⟨h, h2⟩, decide_eq_true ⟨h3, h4⟩⟩)]
@[simp] theorem iL_length (xs : List Int) : (iL xs).length = xs.length := by simp [iL]
theorem iL_get {xs : List Int} {i : Nat} (h : i < xs.length) : (iL xs)[i]? = some (.fz (.int xs[i])) := by simp [iL, h]
section
variable {f g : FE} {r : Env} {o p : O} {k : Int} {d : D}
theorem ix_nw (h1 : f r = .ok (.nw o)) (h2 : g r = .ok (.nw (.fz (.int k)))) (h : ixO (.fz (er o)) k = some (.fz d)) : eIx f g r = .ok (.nw (.fz d)) := by simp [eIx, h1, h2, h]
theorem forL_two {fg : FG} {F : FS} {x y : R} {r1 r2 r3 r4 : Env} (h1 : fg x r = some r1) (h2 : F r1 = .nx r2) (h3 : fg y r2 = some r3) (h4 : F r3 = .nx r4) : forL fg F [x, y] r = .nx r4 := by
  rw [forL_cons h1 h2, forL_cons h3 h4]; rfl
end
section
variable {F G : FS} {r r' : Env} {o : Out} {f : FE} {e : Ec} {tab : List (Str × Bool)} {i : Nat}
@[simp] theorem sUse_ev (k : R → Env → Out) : sUse f k r = (match f r with | .ok x => k x r | .exc e => .exc e r | .bad => .bad) := (rfl)
@[simp] theorem sDrop_ev : sDrop f r = (match f r with | .ok _ => .nx r | .exc e => .exc e r | .bad => .bad) := (rfl)
@[simp] theorem sRaise_ev (x : Str) : sRaise x r = .exc ⟨x, []⟩ r := (rfl)
@[simp] theorem offS_nx : offS i (.nx r) = .nx (r.set i .un) := (rfl)
@[simp] theorem offS_ret {z : O} : offS i (.ret z) = .ret z := (rfl)
@[simp] theorem lookup_self (x : Str) (b : Bool) (t : List (Str × Bool)) : List.lookup x ((x, b) :: t) = some b := by simp [List.lookup]
end
theorem ix_scr {f g : FE} {r : Env} {ns : List Int} {i : Nat} {k : Int} (h1 : f r = .ok (.nw (.fz (.scr ns)))) (h2 : g r = .ok (.nw (I k))) (hk : k = (i : Int)) (h : i < ns.length) : eIx f g r = .ok (.nw (I ns[i])) := by
  have e : ixO (.fz (.scr ns)) k = some (I ns[i]) := by
    show atI (iL ns) k = _
    refine atI_ok (by omega) ?_
    rw [show k.toNat = i by omega]; exact iL_get h
  simp [eIx, h1, h2, e]
@[simp] theorem gLen_scr (ns : List Int) : gLen [.fz (.scr ns)] = .ok (.nw (I ns.length)) := by
  show (match (items (.fz (.scr ns))).map List.length with | some n => fzR (.int n) | none => .bad) = _
  simp
theorem tOf_ok {f : FE} {r : Env} {b : Bool} (h : f r = .ok (.nw (.fz (.bl b)))) : tOf f r = .ok b := by simp [h]
theorem tNot_ok {ft : Env → Res Bool} {r : Env} {b : Bool} (h : ft r = .ok b) : tNotD ft r = .ok (!b) := by simp [h]
theorem call_ok {M : List O → Res O} {fs : Env → Res (List O)} {r : Env} {os : List O} {o : O} (h : fs r = .ok os) (h2 : M os = .ok o) : eCall M fs r = .ok (.nw o) := by simp [h, h2]
theorem asgT_go {fg : FG} {f : FE} {r r1 : Env} {x : R} (h : f r = .ok x) (h2 : fg x.z r = some r1) : sAsgT fg f r = .nx r1 := by
  show (match f r with | .ok x => (match fg x.z r with | some r1 => Out.nx r1 | none => .bad) | .exc e => .exc e r | .bad => .bad) = _
  rw [h]; simp only [h2]
end DL
namespace DL
open PySem L2
section
variable {X : Cx}
end
section
variable {K : PySem.W.Frag}
def gIntB : List O → Res R
  | [.fz (.bl b)] => fzR (.int (if b then 1 else 0))
  | _ => .bad
end
@[simp] theorem gIntB_ev (b : Bool) : gIntB [.fz (.bl b)] = .ok (.nw (.fz (.int (if b then 1 else 0)))) := (rfl)
end DL
namespace DL
open PySem L2
variable {c : Cn} {X : Cx} {a b e : Expr} {es : List Expr} {f g fa fb : FE} {pos : Pos} {fs : Env → Res (List O)} {K : PySem.W.Frag} {H0 H H' Hf Hf' : Hp} {F G : FS} {st : Stmt} {sts : List Stmt} {ft : Env → Res Bool}
theorem RepOs.at : ∀ {os : List O} {vs : List V} {L : List Addr} {j : Nat} {o : O}, RepOs K Hf H os vs L → os[j]? = some o → ∃ v L1 M L2, vs[j]? = some v ∧ L = L1 ++ M ++ L2 ∧ RepO K Hf H o v M ∧
    ∀ (Hf' H' : Hp) (o' : O) (M' : List Addr), Same Hf Hf' → (∀ a ∈ L1 ++ L2, ∀ u, H a = some u → H' a = some u) → RepO K Hf' H' o' v M' → RepOs K Hf' H' (os.set j o') vs (L1 ++ M' ++ L2)
  | [], _, _, _, _, _, e => by simp at e
  | z :: r, _, L, 0, o, h, e => by
    obtain ⟨v, t, L1, L2, e1, e2, h1, h2⟩ := h
    subst e1 e2
    have e3 : z = o := by simpa using e
    subst e3
    refine ⟨v, [], L1, L2, rfl, rfl, h1, fun Hf' H' o' M' f k q => ?_⟩
    exact ⟨v, t, M', L2, rfl, rfl, q, RepOs.mono f r t L2 (fun a ha => k a (by simpa using ha)) h2⟩
  | z :: r, _, L, j + 1, o, h, e => by
    obtain ⟨v, t, L1, L2, e1, e2, h1, h2⟩ := h
    subst e1 e2
    obtain ⟨v2, A, M, B, f1, f2, f3, f4⟩ := RepOs.at (j := j) (o := o) h2 (by simpa using e)
    subst f2
    refine ⟨v2, L1 ++ A, M, B, by simpa using f1, by simp [List.append_assoc], f3, fun Hf' H' o' M' f k q => ?_⟩
    refine ⟨v, t, L1, A ++ M' ++ B, rfl, by simp [List.append_assoc], RepO.mono f z v L1 (fun a ha => k a (by simp [ha])) h1, f4 Hf' H' o' M' f (fun a ha => k a ?_) q⟩
    simp only [List.mem_append] at ha ⊢
    rcases ha with ha | ha
    · exact .inl (.inr ha)
    · exact .inr ha
theorem SR.write1 {r : Env} {s : St} {L : List Addr} {i j : Nat} {os ps : List O} (sr : c.SR K r s Hf H L) (e : r[i]? = some (.vl true (.ls os))) (ej : os[j]? = some (.ls ps)) :
    ∃ p vs q ws, s[i]? = some (some (.ref p)) ∧ H p = some (.lst vs) ∧ vs.length = os.length ∧ vs[j]? = some (.ref q) ∧ H q = some (.lst ws) ∧ RepVs K Hf H ps ws ∧
      (allFz ps = true → ∀ Hf1 H1 ps' ws', Ext Hf H Hf1 H1 → allFz ps' = true → RepVs K Hf1 H1 ps' ws' → ∃ L', c.SR K (r.set i (.vl true (.ls (os.set j (.ls ps'))))) s Hf1 (upd H1 q (.lst ws')) L') := by
  obtain ⟨z, L1, M, L2, h1, h2, h3, h4⟩ := sr.env.at e
  cases z with
  | none => exact h3.elim
  | some v =>
    obtain ⟨p, vs, M', e1, e2, e3, e4⟩ := h3
    subst e1 e4
    obtain ⟨w, A, N, B, g1, g2, g3, g4⟩ := RepOs.at e3 ej
    obtain ⟨q, ws, N', k1, k2, k3, k4⟩ := g3
    subst k1 k4 g2
    have hqL : q ∈ L := by rw [h2]; simp
    have hpL : p ∈ L := by rw [h2]; simp
    refine ⟨p, vs, q, ws, h1, e2, RepOs.length e3, g1, k2, RepOs.view ps ws N' k3, fun hall Hf1 H1 ps' ws' x1 hall' rv' => ?_⟩
    have sr1 := sr.mono x1
    have nd := sr.nd
    rw [h2] at nd
    have nd' : (L1 ++ (p :: (A ++ (q :: N') ++ B)) ++ L2).Nodup := nd
    have nd2 : ((L1 ++ p :: A) ++ q :: (N' ++ (B ++ L2))).Nodup := by simpa [List.append_assoc] using nd'
    have nq := (List.nodup_cons.mp (List.perm_middle.nodup_iff.mp nd2)).1
    have qn : ∀ a ∈ L1 ++ [p] ++ A ++ B ++ L2, a ≠ q := fun a ha e => by
      subst e
      refine nq ?_
      simp only [List.mem_append, List.mem_cons, List.mem_singleton, List.not_mem_nil, or_false] at ha ⊢
      rcases ha with (((h | h) | h) | h) | h <;> simp [h]
    have rq : RepO K Hf1 (upd H1 q (.lst ws')) (.ls ps') (.ref q) [q] := ⟨q, ws', [], rfl, upd_same, repVs_O hall' rv', rfl⟩
    have in1 := g4 Hf1 (upd H1 q (.lst ws')) (.ls ps') [q] x1.fsame (fun a ha u qq => by
      rw [upd_ne (qn a (by simp only [List.mem_append] at ha ⊢; rcases ha with ha | ha <;> simp [ha]))]; exact sr.env.nx.kp x1.same a (by rw [h2]; simp only [List.mem_append, List.mem_cons] at ha ⊢; rcases ha with ha | ha <;> simp [ha]) u qq) rq
    have rp : RepO K Hf1 (upd H1 q (.lst ws')) (.ls (os.set j (.ls ps'))) (.ref p) (p :: (A ++ [q] ++ B)) :=
      ⟨p, vs, A ++ [q] ++ B, rfl, by rw [upd_ne (qn p (by simp))]; exact x1.same.lst e2, in1, rfl⟩
    have env' := h4 Hf1 (upd H1 q (.lst ws')) (.vl true (.ls (os.set j (.ls ps')))) (some (.ref p)) _ x1.fsame (Tst.su x1.same k2 fun _ z => nomatch z) (fun a ha u qq => by
      rw [upd_ne (qn a (by simp only [List.mem_append] at ha ⊢; rcases ha with ha | ha <;> simp [ha]))]; exact sr.env.nx.kp x1.same a (by rw [h2]; simp only [List.mem_append] at ha ⊢; rcases ha with ha | ha <;> simp [ha]) u qq) rp
    have es : s.set i (some (V.ref p)) = s := by
      obtain ⟨hl, hg⟩ := List.getElem?_eq_some_iff.mp h1
      rw [← hg]; exact List.set_getElem_self hl
    rw [es] at env'
    have hqf := (sr1.fr q hqL).1
    have hq0 := (sr.fr q hqL).2
    have sub' : ∀ a ∈ L1 ++ (p :: (A ++ [q] ++ B)) ++ L2, a ∈ L := fun a ha => by
      rw [h2]; simp only [List.mem_append, List.mem_cons, List.mem_singleton, List.not_mem_nil, or_false] at ha ⊢
      rcases ha with (h | h | (h | h) | h) | h <;> simp [h]
    refine ⟨_, ⟨?_, ?_, ?_, ?_, fun h => (sr1.ext.rows h).set (x1.same.lst k2) (Hk.ne rfl)⟩, env', ?_, fun a ha => ⟨(sr1.fr a (sub' a ha)).1, (sr1.fr a (sub' a ha)).2⟩, fun a ha => ?_, sr1.rows.set (x1.same.lst k2) (Hk.ne rfl)⟩
    · exact fun a u qq => by rw [upd_ne (ne_of_none qq hq0)]; exact sr1.ext.same a u qq
    · exact sr1.ext.fsame
    · exact fun a u qq => by rw [upd_ne (ne_of_none qq hqf)]; exact sr1.ext.sub a u qq
    · exact sr1.ext.keep
    · refine nd2.sublist ?_
      have e1 : L1 ++ (p :: (A ++ [q] ++ B)) ++ L2 = (L1 ++ p :: A) ++ q :: (B ++ L2) := by simp [List.append_assoc]
      rw [e1]
      exact (List.Sublist.refl _).append (List.Sublist.cons_cons q (List.sublist_append_right N' (B ++ L2)))
    · by_cases hp : a = q
      · subst hp; rw [upd_same]; simp
      · rw [upd_ne hp]; exact sr1.ok a (sub' a ha)
def onOwn1 (i : Nat) (k : Int) (r : Env) (kk : List O → Nat → List O → Out) : Out := match r[i]? with
  | some (.vl true (.ls os)) => (match ixN os.length k with
    | some j => (match os[j]? with
      | some (.ls ps) => if allFz ps then kk os j ps else .bad
      | _ => .bad)
    | none => .bad)
  | _ => .bad
theorem onOwn1_of {i : Nat} {k : Int} {r : Env} {kk : List O → Nat → List O → Out} {D : Ends} {G : Hp} (q : PostS c K G D (onOwn1 i k r kk)) :
    ∃ os j ps, r[i]? = some (.vl true (.ls os)) ∧ ixN os.length k = some j ∧ os[j]? = some (.ls ps) ∧ allFz ps = true ∧ PostS c K G D (kk os j ps) := by
  unfold onOwn1 at q
  split at q
  · rename_i os e
    split at q
    · rename_i j ej
      split at q
      · rename_i ps ep
        by_cases h : allFz ps = true
        · rw [if_pos h] at q; exact ⟨os, j, ps, e, ej, ep, h, q⟩
        · rw [if_neg h] at q; exact q.elim
      · exact q.elim
    · exact q.elim
  · exact q.elim
def sIx (g : FE) (kk : Int → Env → Out) : FS := sUse g fun y r => match y.a with
  | .fz (.int k) => kk k r
  | _ => .bad
theorem sIx_of {ti : TE} {r : Env} {s : St} {L : List Addr} {D : Ends} {kk : Int → Env → Out} (hi : SoE c K ti g) (sr : c.SR K r s Hf H L) (q : PostS c K Hf D (sIx g kk r)) {Q : VK}
    (hq : ∀ k Hf1 H1, Ext Hf H Hf1 H1 → c.SR K r s Hf1 H1 L → PostS c K Hf1 D (kk k r) → Q (.int k) H1) : ti s H Q := by
  refine hi.use sr q fun y w Hf1 H1 L1 x1 sr1 a1 n1 q1 => ?_
  have b2 := (a1.argR n1).a sr1.same0
  have x2 := x1.add n1 a1.nq
  cases ey : y.a with
  | ls _ => simp only [ey] at q1; exact q1.elim
  | tp _ => simp only [ey] at q1; exact q1.elim
  | ob _ _ _ => simp only [ey] at q1; exact q1.elim
  | dt _ _ => simp only [ey] at q1; exact q1.elim
  | dk _ _ => simp only [ey] at q1; exact q1.elim
  | gh _ _ _ => simp only [ey] at q1; exact q1.elim
  | fz d =>
    cases d with
    | int k =>
      simp only [ey] at q1
      rw [ey] at b2
      have b3 : w = .int k := b2
      subst b3
      exact hq k _ H1 x2 (sr.mono x2) (q1.mono (addF_nw n1))
    | _ => simp only [ey] at q1; exact q1.elim
theorem rIx_own {j : Nat} {k : Int} {os : List O} {p : Addr} {vs : List V} {q : Addr} {Q : VK} (h2 : H p = some (.lst vs)) (hl : vs.length = os.length) (h3 : vs[j]? = some (.ref q)) (ek : ixN os.length k = some j) (h : Q (.ref q) H) : rIx K (.ref p) (.int k) H Q :=
  .inl ⟨p, vs, k, .ref q, rfl, rfl, SqL.of h2, by unfold atI; rw [hl, ek]; exact h3, h⟩
def onLs (i : Nat) (F : FS) : FS := fun r => match r[i]? with
  | some (.vl true (.ls _)) => F r
  | _ => .bad
theorem onLs_of {i : Nat} {r : Env} {s : St} {L : List Addr} {D : Ends} {G : Hp} (sr : c.SR K r s Hf H L) (q : PostS c K G D (onLs i F r)) : ∃ os v, r[i]? = some (.vl true (.ls os)) ∧ s[i]? = some (some v) ∧ PostS c K G D (F r) := by
  unfold onLs at q
  split at q
  · rename_i os e
    obtain ⟨v, h, _⟩ := sr.slot e
    exact ⟨os, v, e, h, q⟩
  · exact q.elim
def sApp1 (i : Nat) (g f : FE) : FS := onLs i (sIx g fun k r => onOwn1 i k r fun os j ps => sUse f (fun x r => match x.a with
    | .fz d => if ps.length ≤ 100000 then .nx (r.set i (.vl true (.ls (os.set j (.ls (ps ++ [.fz d])))))) else .bad
    | _ => .bad) r)
theorem ds_app1 {i : Nat} {o ei : Expr} {p1 apos cpos : Pos} (hv : PE X o (tVar i)) (hi : DE c X ei g) (h : DE c X e f) (hp : PlainIx ei := by exact fun _ _ => rfl)
    (hbase : attributeBase (.Subscript o ei p1) "append" X.env (eval (.Subscript o ei p1) X.env) = eval (.Subscript o ei p1) X.env := by rfl)
    (hfew : ((backTo cpos (starEach [e] X.env)).all (fun x => !x.1) && (backToKw cpos (keywordEach [] X.env)).all (fun x => x.1.isSome)
      && decide (([e] : List Expr).length + ([] : List Keyword).length + (if ([] : List Keyword).isEmpty then 0 else 1) < 30)) = true := by rfl)
    (hline : (apos.endLine == cpos.line) = true := by rfl) (hs : starEach [e] X.env = (false, eval e X.env) :: starEach [] X.env := by rfl) (hplain : (backTo cpos (starEach [] X.env)).any (·.1) = false := by rfl)
    (hsw : swapsWith (.Call (.Attribute (.Subscript o ei p1) "append" apos) [e] [] cpos) none pos.line X.env = pure false := by rfl) : DS c X (.Expr (.Call (.Attribute (.Subscript o ei p1) "append" apos) [e] [] cpos) pos) (sApp1 i g f) := by
  obtain ⟨t, p, s⟩ := h.ex
  obtain ⟨ti, pi, si⟩ := hi.ex
  refine ⟨_, ps_expr (pe_bm PySem.F.plainAttrs_list PySem.F.slot_list_append PySem.F.type_list_append mt_append (pe_ix ix_seq hv pi hp) (pa_cons p pa_nil hs) hbase hfew hline hs hplain) hsw, fun r s' Hf H L sr D q => ?_⟩
  obtain ⟨os0, v0, _, hv0, q⟩ := onLs_of sr q
  refine ⟨v0, hv0, sIx_of si sr q fun k Hf1 H1 x1 sr1 q1 => ?_⟩
  obtain ⟨os, j, ps, eo, ek, ej, hall, q2⟩ := onOwn1_of q1
  obtain ⟨pp, vs, qq, ws, h1, h2, h3, h4, h5, h6, h7⟩ := sr1.write1 eo ej
  rw [h1] at hv0
  cases hv0
  refine rIx_own h2 h3 h4 ek ⟨.inl ⟨rfl, ws, SqL.of h5⟩, ?_⟩
  refine s.use sr1 q2 fun x u Hf2 H2 L1 x2 sr2 a1 n1 q3 => ?_
  have a2 := (a1.argR n1).a sr2.same0
  have x3 := x2.add n1 a1.nq
  cases ex : x.a with
  | ls _ => simp only [ex] at q3; exact q3.elim
  | tp _ => simp only [ex] at q3; exact q3.elim
  | ob _ _ _ => simp only [ex] at q3; exact q3.elim
  | dt _ _ => simp only [ex] at q3; exact q3.elim
  | dk _ _ => simp only [ex] at q3; exact q3.elim
  | gh _ _ _ => simp only [ex] at q3; exact q3.elim
  | fz d =>
    simp only [ex] at q3
    rw [ex] at a2
    by_cases hl : ps.length ≤ 100000
    · rw [if_pos hl] at q3
      have lv : ws.length = ps.length := RepVs.length h6
      refine ⟨qq, ws, u, rfl, rfl, x2.same.lst h5, Nat.lt_of_le_of_lt (show ws.length ≤ 100000 by omega) (by decide), ?_⟩
      obtain ⟨L', sr3⟩ := h7 hall (addF Hf2 H2 L1) H2 (ps ++ [.fz d]) (ws ++ [u]) x3 (by rw [allFz_append, hall]; rfl) ((RepVs.mono x3.fsame x3.same ps ws h6).append ⟨u, [], rfl, a2, rfl⟩)
      exact q3 _ _ _ _ (addF_nw n1) sr3
    · rw [if_neg hl] at q3; exact q3.elim
end DL
namespace DL
open PySem L2
variable {c : Cn} {X : Cx} {a b e : Expr} {es : List Expr} {f g fa fb : FE} {pos : Pos} {fs : Env → Res (List O)} {K : PySem.W.Frag} {H0 H H' Hf Hf' : Hp} {F G : FS} {st : Stmt} {sts : List Stmt} {ft : Env → Res Bool}
end DL
namespace DL
open PySem L2
variable {c : Cn} {X : Cx} {a b e : Expr} {es : List Expr} {f g fa fb : FE} {pos : Pos} {fs : Env → Res (List O)} {K : PySem.W.Frag} {H0 H H' Hf Hf' : Hp} {F G : FS} {st : Stmt} {sts : List Stmt} {ft : Env → Res Bool}
def frz (o : O) : O := .fz (er o)
mutual
def noTp : O → Bool
  | .fz _ => true
  | .ls os => noTps os
  | .tp _ => false
  | .ob _ _ _ => false
  | .dt _ _ => true
  | .dk _ _ => true
  | .gh _ _ _ => false
def noTps : List O → Bool
  | [] => true
  | o :: os => noTp o && noTps os
end
@[simp] theorem noTps_nil : noTps [] = true := (rfl)
@[simp] theorem noTps_cons (o : O) (os : List O) : noTps (o :: os) = (noTp o && noTps os) := (rfl)
@[simp] theorem noTp_fz (d : D) : noTp (.fz d) = true := (rfl)
@[simp] theorem noTp_ls (os : List O) : noTp (.ls os) = noTps os := (rfl)
@[simp] theorem noTps_map {α : Type} (f : α → D) (xs : List α) : noTps (xs.map fun x => O.fz (f x)) = true := by
  induction xs with
  | nil => rfl
  | cons x xs ih => simp [ih]
@[simp] theorem noTps_map2 (xs : List D) : noTps (xs.map O.fz) = true := noTps_map id xs
@[simp] theorem frz_fz (d : D) : frz (.fz d) = .fz d := (rfl)
def PostAO (c : Cn) (K : PySem.W.Frag) (s : St) (Hf H : Hp) (Q : List V → Hp → Prop) : Res (List O) → Prop
  | .ok os => ∀ vs Hf' H' L, Ext Hf H Hf' H' → RepOs K Hf' H' os vs L → Nw H Hf' H' L → Q vs H'
  | .exc e => PostX c K s Hf H e
  | .bad => False
def SoAO (c : Cn) (K : PySem.W.Frag) (t : TA) (f : Env → Res (List O)) : Prop := ∀ r s Hf H L, c.SR K r s Hf H L → ∀ Q, PostAO c K s Hf H Q (f r) → t s H Q
structure DAO (c : Cn) (X : Cx) (e : List Expr) (f : Env → Res (List O)) : Prop where
  ex : ∃ t, PA X e t ∧ SoAO c X.K t f
def aNilO : Env → Res (List O) := fun _ => .ok []
def aConsO (f : FE) (fs : Env → Res (List O)) : Env → Res (List O) := fun r => (f r).bind fun x => (fs r).bind fun xs => match newO x with
  | some o => .ok (o :: xs)
  | none => .bad
theorem dao_nil : DAO c X [] aNilO := ⟨tNil, pa_nil, fun r s Hf H L sr Q q => q [] Hf H [] (Ext.refl sr.sub) ⟨rfl, rfl⟩ nw_nil⟩
theorem PostX.mono2 {s : St} {Hf1 H1 : Hp} {e : Ec} (x : Ext Hf H Hf1 H1) (h : PostX c K s Hf H e) : PostX c K s Hf1 H1 e := fun cls d Hf' H' x2 h2 => h cls d Hf' H' (x.trans x2) h2
theorem dao_cons (h : DE c X e f) (hs : DAO c X es fs) (hst : starEach (e :: es) X.env = (false, eval e X.env) :: starEach es X.env := by rfl) : DAO c X (e :: es) (aConsO f fs) := by
  obtain ⟨t, p, s⟩ := h.ex
  obtain ⟨ts, ps, ss⟩ := hs.ex
  refine ⟨tCons t ts, pa_cons p ps hst, fun r s' Hf H L sr Q q => ?_⟩
  refine s r s' Hf H L sr _ ?_
  cases e0 : f r with
  | bad => simp only [aConsO, e0, Res.bind] at q; exact q.elim
  | exc e' => simp only [aConsO, e0, Res.bind] at q; exact q
  | ok x =>
    simp only [aConsO, e0, Res.bind] at q
    intro v Hf1 H1 L1 x1 h1 n1
    refine ss r s' Hf1 H1 L (sr.mono x1) _ ?_
    cases e1 : fs r with
    | bad => simp only [e1] at q; exact q.elim
    | exc e' => simp only [e1] at q; exact PostX.mono2 x1 q
    | ok xs =>
      simp only [e1] at q
      intro vs Hf2 H2 L2 x2 h2 n2
      cases x with
      | vw o => exact q.elim
      | bw o => exact q.elim
      | nw o =>
        refine q (v :: vs) Hf2 H2 (L1 ++ L2) (x1.trans x2) ⟨v, vs, L1, L2, rfl, rfl, RepO.mono x2.fsame o v L1 ((RepO.nx o v L1 h1).kp x2.same) h1, h2⟩ ⟨?_, fun a ha => ?_⟩
        · rw [List.nodup_append]
          refine ⟨n1.nd, n2.nd, fun a ha b hb z => ?_⟩
          subst z
          exact (n1.fr a ha).2.2 (n2.fr a hb).1
        · rcases List.mem_append.mp ha with h | h
          · obtain ⟨k1, k2, k3⟩ := n1.fr a h
            exact ⟨k1, x2.nf k3 k2, x2.same.ne_none k3⟩
          · obtain ⟨k1, k2, k3⟩ := n2.fr a h
            exact ⟨x1.same.free k1, k2, k3⟩
def eLstO (fs : Env → Res (List O)) : FE := fun r => (fs r).bind fun os => if os.length ≤ 1000 then .ok (.nw (.ls os)) else .bad
theorem de_lstO (h : DAO c X es fs) : DE c X (.List es pos) (eLstO fs) := by
  obtain ⟨t, p, s⟩ := h.ex
  refine ⟨tLst t, pe_lst p, fun r s' Hf H L sr Q q => ?_⟩
  refine s r s' Hf H L sr _ ?_
  cases e0 : fs r with
  | bad => simp only [eLstO, e0, Res.bind] at q; exact q.elim
  | exc e' => simp only [eLstO, e0, Res.bind] at q; exact q
  | ok os =>
    simp only [eLstO, e0, Res.bind] at q
    intro vs Hf1 H1 L1 x1 h1 n1
    by_cases hc : os.length ≤ 1000
    · rw [if_pos hc] at q
      refine ⟨by rw [RepOs.length h1]; exact Nat.le_trans hc (by decide), fun p hp => ?_⟩
      have x2 : Ext Hf1 H1 Hf1 (upd H1 p (.lst vs)) := Ext.new x1.sub hp
      refine q (.ref p) Hf1 _ (p :: L1) (x1.trans x2) ⟨p, vs, L1, rfl, upd_same, RepOs.mono (Same.refl _) os vs L1 ((RepOs.nx os vs L1 h1).kp x2.same) h1, rfl⟩ ⟨?_, fun a ha => ?_⟩
      · refine List.nodup_cons.mpr ⟨fun z => (n1.fr p z).2.2 hp, n1.nd⟩
      · rcases List.mem_cons.mp ha with h | h
        · subst h
          exact ⟨x1.same.free hp, sub_none x1.sub hp, by rw [upd_same]; simp⟩
        · obtain ⟨k1, k2, k3⟩ := n1.fr a h
          exact ⟨k1, k2, x2.same.ne_none k3⟩
    · rw [if_neg hc] at q; exact q.elim
end DL
namespace DL
open PySem L2
variable {c : Cn} {X : Cx} {a b e : Expr} {es : List Expr} {f g fa fb : FE} {pos : Pos} {fs : Env → Res (List O)} {K : PySem.W.Frag} {H0 H H' Hf Hf' : Hp} {F G : FS} {st : Stmt} {sts : List Stmt} {ft : Env → Res Bool}
def PostAR (c : Cn) (K : PySem.W.Frag) (s : St) (L : List Addr) (Hf H : Hp) (Q : List V → Hp → Prop) : Res (List O) → Prop
  | .ok os => ∀ vs Hf' H' M, Ext Hf H Hf' H' → RepOs K Hf' H' os vs M → M.Nodup → (∀ a ∈ M, (a ∈ L ∨ H a = none) ∧ Hf' a = none ∧ c.H0 a = none ∧ H' a ≠ none) → Q vs H'
  | .exc e => PostX c K s Hf H e
  | .bad => False
def SoAR (c : Cn) (K : PySem.W.Frag) (t : TA) (f : Env → Res (List O)) : Prop := ∀ r s Hf H L, c.SR K r s Hf H L → ∀ Q, PostAR c K s L Hf H Q (f r) → t s H Q
structure DAR (c : Cn) (X : Cx) (e : List Expr) (f : Env → Res (List O)) : Prop where
  ex : ∃ t, PA X e t ∧ SoAR c X.K t f
end DL
namespace DL
open PySem L2
section
variable {prog : Program} {w : World} {A : Around} {R : Result → Shared → Prop} {I : Addr} {fp wr : List Addr} {n : Nat} {P : Nat → Value → Prop} {St : Nat → Heap → Prop} {E : Value → Shared → Prop} {s : Shared}
end
section
variable {X : Cx}
end
section
variable {c : Cn} {X : Cx} {a b e : Expr} {es : List Expr} {f g fa fb : FE} {pos : Pos} {K : PySem.W.Frag} {H0 H H' Hf Hf' : Hp}
end
end DL
namespace DL
open PySem L2
variable {c : Cn} {X : Cx} {a b e : Expr} {es : List Expr} {f g fa fb : FE} {pos : Pos} {fs : Env → Res (List O)} {K : PySem.W.Frag} {H0 H H' Hf Hf' : Hp} {F G : FS} {st : Stmt} {sts : List Stmt} {ft : Env → Res Bool}
def rlD (rule : List (List Int)) : D := .lst (rule.map fun p => .lst (p.map .int))
def fsD (first : List (Int × Int)) : D := .lst (first.map fun p => .tup [.int p.1, .int p.2])
theorem ints_reps : ∀ p : List Int, Reps K H (p.map .int) (p.map V.int)
  | [] => rfl
  | n :: p => ⟨_, _, rfl, rfl, ints_reps p⟩
theorem polys_rep {rule : List (List Int)} {v : V} (h : PolysAt H rule v) : Rep K H (rlD rule) v := by
  obtain ⟨a, vs, e, h1, h2⟩ := h
  refine ⟨a, vs, e, h1, ?_⟩
  clear h1
  induction h2 with
  | nil => rfl
  | cons q r ih =>
    obtain ⟨b, e1, g1⟩ := q
    exact ⟨_, _, rfl, ⟨b, _, e1, g1, ints_reps _⟩, ih⟩
theorem frs_reps {first : List (Int × Int)} {vs : List V} (h2 : Paired (FrAt H) first vs) : Reps K H (first.map fun p => .tup [.int p.1, .int p.2]) vs := by
  induction h2 with
  | nil => rfl
  | cons q r ih =>
    obtain ⟨b, e1, g1⟩ := q
    exact ⟨_, _, rfl, ⟨b, _, e1, g1, ⟨_, _, rfl, rfl, _, _, rfl, rfl, rfl⟩⟩, ih⟩
theorem frs_rep {first : List (Int × Int)} {v : V} (h : FrsAt H first v) : Rep K H (fsD first) v := by
  obtain ⟨a, vs, e, h1, h2⟩ := h
  exact ⟨a, vs, e, h1, frs_reps h2⟩
def FldF (K : PySem.W.Frag) (tab : List Str) (f : Str) : Prop := ∀ c ∈ tab, Cls K (He.ga K c) ∧ NoAttr K (He.ga K c) f
def fldR (tab : List Str) (f : Str) : R → Res R
  | .nw (.fz (.obj c ns ds)) => if c ∈ tab then (match (ns.zip ds).lookup f with | some d => fzR d | none => .bad) else .bad
  | .nw (.fz (.row rule first)) => if ("Row" : Str) ∈ tab then (if f = "rule" then fzR (rlD rule) else if f = "first" then fzR (fsD first) else .bad) else .bad
  | .vw (.ob c ns os) => if c ∈ tab then (match (ns.zip os).lookup f with | some o => .ok (see true o) | none => .bad) else .bad
  | .bw (.ob c ns os) => if c ∈ tab then (match (ns.zip os).lookup f with | some o => .ok (see false o) | none => .bad) else .bad
  | _ => .bad
def eFld (tab : List Str) (f : Str) (fo : FE) : FE := fun r => (fo r).bind (fldR tab f)
theorem lookup_reps : ∀ {ns : List Str} {ds : List D} {vs : List V} {f : Str} {d : D}, Reps K H ds vs → (ns.zip ds).lookup f = some d → ∃ v, (ns.zip vs).lookup f = some v ∧ Rep K H d v
  | [], _, _, _, _, _, e => by simp at e
  | _ :: _, [], _, _, _, _, e => by simp at e
  | n :: ns, d0 :: ds, _, f, d, h, e => by
    obtain ⟨v, r, e1, h1, h2⟩ := h
    subst e1
    rw [List.zip_cons_cons, List.lookup_cons] at e ⊢
    by_cases hn : (f == n) = true
    · rw [hn] at e ⊢
      cases e
      exact ⟨v, rfl, h1⟩
    · have hn' : (f == n) = false := by simpa using hn
      rw [hn'] at e ⊢
      exact lookup_reps h2 e
theorem lookup_repVs : ∀ {ns : List Str} {os : List O} {vs : List V} {f : Str} {o : O}, RepVs K Hf H os vs → (ns.zip os).lookup f = some o → ∃ v, (ns.zip vs).lookup f = some v ∧ RepV K Hf H o v
  | [], _, _, _, _, _, e => by simp at e
  | _ :: _, [], _, _, _, _, e => by simp at e
  | n :: ns, d0 :: ds, _, f, d, h, e => by
    obtain ⟨v, r, e1, h1, h2⟩ := h
    subst e1
    rw [List.zip_cons_cons, List.lookup_cons] at e ⊢
    by_cases hn : (f == n) = true
    · rw [hn] at e ⊢
      cases e
      exact ⟨v, rfl, h1⟩
    · have hn' : (f == n) = false := by simpa using hn
      rw [hn'] at e ⊢
      exact lookup_repVs h2 e
theorem see_res {w : Bool} {o : O} {v : V} {H0 : Hp} (h : RepV K Hf (if w then H else H0) o v) : ResR K H0 Hf H (see w o) v [] := by
  cases o with
  | fz d => exact ⟨h, rfl⟩
  | ls _ => cases w <;> exact ⟨h, rfl⟩
  | tp _ => cases w <;> exact ⟨h, rfl⟩
  | ob _ _ _ => cases w <;> exact ⟨h, rfl⟩
  | dt _ _ => cases w <;> exact ⟨h, rfl⟩
  | dk _ _ => cases w <;> exact ⟨h, rfl⟩
  | gh _ _ _ => cases w <;> exact ⟨h, rfl⟩
theorem de_fld {tab : List Str} {fn : Str} (hT : FldF X.K tab fn) (h : DE c X a f) (hb : attributeBase a fn X.env (eval a X.env) = eval a X.env := by rfl) : DE c X (.Attribute a fn pos) (eFld tab fn f) := by
  obtain ⟨t, p, s⟩ := h.ex
  refine ⟨tFld X.K t fn, pe_fld p hb, fun r s' Hf H L sr Q q => ?_⟩
  refine s.run sr pstE q fun x v Hf1 H1 x1 sr1 a1 q1 => ?_
  have view : ∀ (w : Bool) (cc : Str) (ns : List Str) (os : List O), RepV X.K Hf1 (if w then H1 else c.H0) (.ob cc ns os) v →
      PostE c X.K s' Hf1 H1 Q (if cc ∈ tab then (match (ns.zip os).lookup fn with | some o => .ok (see w o) | none => .bad) else .bad) →
      ∃ a C dx fs v', v = V.ref a ∧ H1 a = some (.ins C dx fs) ∧ Cls X.K C ∧ NoAttr X.K C fn ∧ fs.lookup fn = some v' ∧ Q v' H1 := fun w cc ns os h1 q1 => by
    by_cases hc : cc ∈ tab
    · rw [if_pos hc] at q1
      obtain ⟨a, dx, vs, e1, k1, k2, k3, k4, _⟩ := h1
      cases el : (ns.zip os).lookup fn with
      | none => rw [el] at q1; exact q1.elim
      | some o =>
        rw [el] at q1
        obtain ⟨v', l', r'⟩ := lookup_repVs k4 el
        obtain ⟨f1, f2⟩ := hT cc hc
        have k1' : H1 a = some (.ins (He.ga X.K cc) dx (ns.zip vs)) := by
          cases w with
          | true => exact k1
          | false => exact sr1.same0.ins k1
        exact ⟨a, _, dx, _, v', e1, k1', f1, f2, l', q1 v' Hf1 H1 [] (Ext.refl sr1.sub) (see_res r') nw_nil⟩
    · rw [if_neg hc] at q1; exact q1.elim
  cases x with
  | vw o =>
    cases o with
    | ob cc ns os => exact view true cc ns os a1 q1
    | _ => exact q1.elim
  | bw o =>
    cases o with
    | ob cc ns os => exact view false cc ns os a1 q1
    | _ => exact q1.elim
  | nw o =>
    cases o with
    | fz d =>
      cases d with
      | obj cc ns ds =>
        simp only [fldR] at q1
        by_cases hc : cc ∈ tab
        · rw [if_pos hc] at q1
          obtain ⟨a, dx, vs, e1, k1, k2, k3, k4⟩ := a1
          cases el : (ns.zip ds).lookup fn with
          | none => rw [el] at q1; exact q1.elim
          | some d =>
            rw [el] at q1
            obtain ⟨v', l', r'⟩ := lookup_reps k4 el
            obtain ⟨f1, f2⟩ := hT cc hc
            exact ⟨a, _, dx, _, v', e1, sr1.sub _ _ k1, f1, f2, l', postE_fz sr1.sub q1 r'⟩
        · rw [if_neg hc] at q1; exact q1.elim
      | row rule first =>
        simp only [fldR] at q1
        by_cases hc : ("Row" : Str) ∈ tab
        · rw [if_pos hc] at q1
          obtain ⟨a, e1, dx, rv, fv, k, k1, k2, k3, k4⟩ := a1
          obtain ⟨f1, f2⟩ := hT _ hc
          by_cases hr : fn = "rule"
          · rw [if_pos hr] at q1
            subst hr
            exact ⟨a, _, dx, _, rv, e1, sr1.sub _ _ k1, f1, f2, rfl, postE_fz sr1.sub q1 (polys_rep k3)⟩
          · rw [if_neg hr] at q1
            by_cases hf : fn = "first"
            · rw [if_pos hf] at q1
              subst hf
              exact ⟨a, _, dx, _, fv, e1, sr1.sub _ _ k1, f1, f2, rfl, postE_fz sr1.sub q1 (frs_rep k4)⟩
            · rw [if_neg hf] at q1; exact q1.elim
        · rw [if_neg hc] at q1; exact q1.elim
      | _ => exact q1.elim
    | _ => exact q1.elim
theorem pe_any {ι : Type} {t : ι → TE} {e : Expr} (h : ∀ i, PE X e (t i)) : PE X e (fun σ H Q => ∃ i, t i σ H Q) := ⟨fun pins s σ H Q I ⟨i, q⟩ => (h i).run pins s σ H Q I q⟩
section
variable {CX : CXT} {k : Nat} {fA C : Addr} {fd : FuncData} {ps : List Str} {sp : Sp} {E : St → XK} {x m : Str} {p apos : Pos} {o : Expr} {ta : TE} {t : TA}
def tMethA (C : Addr) (m : Str) (sp : Sp) (E : St → XK) (ta : TE) (t : TA) : TE := fun σ H Q => ta σ H fun x H1 => ∃ a dx fs, x = .ref a ∧ H1 a = some (.ins C dx fs) ∧ fs.lookup m = none ∧ t σ H1 fun vs H2 => sp (x :: vs) H2 Q (E σ)
theorem pe_methA {pl : Sem Bool} (he : PE X o ta) (cl : Cls X.K C) (hm : Meth X.K C m fA) (F : FnOk X.prog X.w X.K X.mg X.base CX k fA fd ps sp) (hr : Room k X.A) (hb : Binds X.K fd ps []) (hx : ∀ σ, PassesAt CX X σ (E σ)) (ha : PA X (e :: es) t)
    (hst : starEach (e :: es) X.env = (false, eval e X.env) :: starEach es X.env := by rfl) (hpl : (backTo pos (starEach es X.env)).any (·.1) = false := by rfl)
    (ht : eval (.Call (.Attribute o m apos) (e :: es) [] pos) X.env = (do
      let ov ← eval o X.env
      standAt apos.atName
      let (f, first) ← holding [ov] (getMethod ov m pl)
      callWith pos f first (backTo pos (starEach (e :: es) X.env)) (backToKw pos (keywordEach [] X.env))) := by rfl) :
    PE X (.Call (.Attribute o m apos) (e :: es) [] pos) (tMethA C m sp E ta t) := by
  refine ⟨fun pins s σ H Q I h => ?_⟩
  refine PySem.W.methodCall_KW (pl := pl) (thn (he.run pins s σ H _ I h) fun u s1 ⟨x, H1, I1, rx, a, dx, fs, ex, ea, l, q⟩ => ?_) ht
  subst ex
  obtain rfl : u = Value.ref a := rx
  refine getmeth_ok I1 ea cl hm l ?_
  refine PySem.W.callWith_K (first := [.ref a]) (h₀ := X.base) I.ok.mod.kin hm.kp (thn (ha.run pos pins s1 σ H1 _ I1 q) fun us s2 ⟨vs, H2, I2, r, q2⟩ => ⟨I2.kIn, ?_⟩) hst hpl
  exact run_fnS (us := .ref a :: us) (vs := .ref a :: vs) F hr hb (hx σ) I2 (.cons rfl r) q2
end
structure DefM (P : Program) (w : World) (K : PySem.W.Frag) (mg : Str → Option Value) (base : Heap) (c m : Str) (k n : Nat) (F : List O → Res O) : Prop where
  ex : ∃ f fd ps, FnOk P w K mg base (L2.CX P w) k f fd ps (spD K n F) ∧ Cls K (He.ga K c) ∧ Meth K (He.ga K c) m f ∧ Binds K fd ps [] ∧ ps.length = n
def clsO : O → Option (Str × List Str)
  | .fz (.obj c ns _) => some (c, ns)
  | .fz (.row _ _) => some ("Row", rowNs)
  | .ob c ns _ => some (c, ns)
  | _ => none
theorem clsO_ok {o : O} {v : V} {cc : Str} {ns : List Str} (s : Same Hf H) (h : RepV K Hf H o v) (e : clsO o = some (cc, ns)) : ∃ a dx fs, v = .ref a ∧ H a = some (.ins (He.ga K cc) dx fs) ∧ fs.map (·.1) = ns := by
  cases o with
  | ob c' ns' os =>
    cases e
    obtain ⟨a, dx, vs, e1, k1, k2, k3, k4, _⟩ := h
    exact ⟨a, dx, _, e1, k1, zip_fst (by rw [k3, RepVs.length k4])⟩
  | fz d =>
    cases d with
    | obj c' ns' ds =>
      cases e
      obtain ⟨a, dx, vs, e1, k1, k2, k3, k4⟩ := h
      exact ⟨a, dx, _, e1, s _ _ k1, zip_fst (by rw [k3, Reps.length k4])⟩
    | row rule first =>
      cases e
      obtain ⟨a, e1, dx, rv, fv, k, k1, _⟩ := h
      exact ⟨a, dx, _, e1, s _ _ k1, rfl⟩
    | _ => cases e
  | _ => cases e
def eMeth (tab : List (Str × (List O → Res O))) (m : Str) (fo : FE) (fs : Env → Res (List O)) : FE := fun r => match fo r with
  | .ok x => (match clsO x.a with
    | some (c, ns) => if m ∈ ns then .bad else (match tab.lookup c with
      | some M => (fs r).bind fun os => (M (x.a :: os)).bind fun o => .ok (.nw o)
      | none => .bad)
    | none => .bad)
  | _ => .bad
theorem lookup_none_of {m : Str} : ∀ {fs : List (Str × V)}, m ∉ fs.map (·.1) → fs.lookup m = none
  | [], _ => rfl
  | (g, x) :: r, h => by
    rw [List.lookup_cons]
    have hn : (m == g) = false := by
      simp only [List.map_cons, List.mem_cons, not_or] at h
      simpa using h.1
    rw [hn]
    exact lookup_none_of (fs := r) fun z => h (List.mem_cons_of_mem _ z)
theorem lookup_memF {β : Type} {c : Str} {M : β} : ∀ {tab : List (Str × β)}, tab.lookup c = some M → (c, M) ∈ tab
  | [], h => by cases h
  | (g, x) :: r, h => by
    rw [List.lookup_cons] at h
    by_cases hn : (c == g) = true
    · rw [hn] at h
      cases h
      rw [eq_of_beq hn]
      exact List.mem_cons_self
    · have hn' : (c == g) = false := by simpa using hn
      rw [hn'] at h
      exact List.mem_cons_of_mem _ (lookup_memF h)
theorem post_call {M : List O → Res O} {n : Nat} {vs : List V} {os : List O} {s : St} {Q : VK} {r : Env} {L : List Addr} (sr : c.SR K r s Hf H L) (hr : RepVs K Hf H os vs) (hl : os.length = n) (q : PostE c K s Hf H Q ((M os).bind fun o => .ok (.nw o))) :
    spD K n M vs H Q (WE c.W s) := by
  refine ⟨Hf, os, sr.sub, sr.rows, hr, hl, ?_⟩
  cases e1 : M os with
  | bad => rw [e1] at q; exact q.elim
  | exc e' =>
    rw [e1] at q
    exact fun cls d Hf2 H2 x2 h2 => q cls d Hf2 H2 x2 h2
  | ok o =>
    rw [e1] at q
    exact fun v Hf2 H2 L2 x2 h2 n2 => q v Hf2 H2 L2 x2 h2 n2
theorem SoE.runO {t : TE} {r : Env} {s : St} {L : List Addr} {x : R} (h : SoE c K t f) (sr : c.SR K r s Hf H L) (e : f r = .ok x) {Q : VK}
    (hq : ∀ v Hf1 H1, Ext Hf H Hf1 H1 → c.SR K r s Hf1 H1 L → ArgR K c.H0 Hf1 H1 x v → Q v H1) : t s H Q := by
  refine h r s Hf H L sr Q ?_
  rw [e]
  intro v Hf1 H1 L1 x1 q n
  have x2 := x1.add n q.nq
  exact hq v _ H1 x2 (sr.mono x2) (q.argR n)
section
variable {k n : Nat} {m : Str} {tab : List (Str × (List O → Res O))} {apos : Pos} {o : Expr} {fo : FE}
theorem de_meth {pl : Sem Bool} (hT : ∀ p ∈ tab, ∃ j, j ≤ k ∧ DefM X.prog X.w X.K X.mg X.base p.1 m j n p.2) (B : Bk c X k) (ho : DE c X o fo) (h : DA c X (e :: es) fs)
    (hlen : ∀ r os, fs r = .ok os → os.length + 1 = n)
    (hst : starEach (e :: es) X.env = (false, eval e X.env) :: starEach es X.env := by rfl) (hpl : (backTo pos (starEach es X.env)).any (·.1) = false := by rfl)
    (ht : eval (.Call (.Attribute o m apos) (e :: es) [] pos) X.env = (do
      let ov ← eval o X.env
      standAt apos.atName
      let (f, first) ← holding [ov] (getMethod ov m pl)
      callWith pos f first (backTo pos (starEach (e :: es) X.env)) (backToKw pos (keywordEach [] X.env))) := by rfl) :
    DE c X (.Call (.Attribute o m apos) (e :: es) [] pos) (eMeth tab m fo fs) := by
  obtain ⟨t, p, s⟩ := ho.ex
  obtain ⟨t2, p2, s2⟩ := h.ex
  refine ⟨_, pe_any (ι := {q : Str × (List O → Res O) // q ∈ tab}) (t := fun i => tMethA (He.ga X.K i.1.1) m (spD X.K n i.1.2) (WE c.W) t t2) (fun i => ?_), fun r s' Hf H L sr Q q => ?_⟩
  · obtain ⟨j, hj, D⟩ := hT i.1 i.2
    obtain ⟨fA, fd, ps, Fo, cl, hm, hb, hn⟩ := D.ex
    exact pe_methA p cl hm Fo (B.hr.mono hj) hb (fun σ => passAt B.tk σ) p2 hst hpl ht
  · unfold eMeth at q
    cases e0 : fo r with
    | bad => rw [e0] at q; exact q.elim
    | exc e' => rw [e0] at q; exact q.elim
    | ok x =>
      rw [e0] at q
      dsimp only at q
      cases ec : clsO x.a with
      | none => rw [ec] at q; exact q.elim
      | some cn =>
        obtain ⟨cc, ns⟩ := cn
        rw [ec] at q
        dsimp only at q
        by_cases hm : m ∈ ns
        · rw [if_pos hm] at q; exact q.elim
        · rw [if_neg hm] at q
          cases el : tab.lookup cc with
          | none => rw [el] at q; exact q.elim
          | some M =>
            rw [el] at q
            dsimp only at q
            refine ⟨⟨(cc, M), lookup_memF el⟩, ?_⟩
            refine s.runO sr e0 fun v Hf1 H1 x1 sr1 a1 => ?_
            obtain ⟨a, dx, fs', ev, k1, k2⟩ := clsO_ok sr1.sub (a1.a sr1.same0) ec
            refine ⟨a, dx, fs', ev, k1, lookup_none_of (by rw [k2]; exact hm), ?_⟩
            have q1 := pstE.mono _ _ _ _ _ x1 q
            refine s2 r s' Hf1 H1 L sr1 _ ?_
            cases e2 : fs r with
            | bad => rw [e2] at q1; exact q1.elim
            | exc e' => rw [e2] at q1; exact q1
            | ok os =>
              rw [e2] at q1
              intro vs Hf2 H2 x2 a2
              refine post_call (sr1.mono x2) (os := x.a :: os) ⟨v, vs, rfl, (a1.mono x2.fsame x2.same).a (sr1.mono x2).same0, a2⟩ (by rw [List.length_cons]; exact hlen r os e2) (pstE.mono _ _ _ _ _ x2 q1)
end
theorem SR.put {r : Env} {s : St} {L : List Addr} {i : Nat} {x : S} (sr : c.SR K r s Hf H L) (e : r[i]? = some x) : ∃ y A M B, s[i]? = some y ∧ L = A ++ M ++ B ∧ SlotR K Hf c.H0 H x y M ∧
    ∀ (a : Addr) (u u' : HO) (x' : S) (M' : List Addr), a ∈ M → H a = some u → (∀ φ : Hk, u ≠ φ.o) → (∀ xs, u ≠ .tup xs) → SlotR K Hf c.H0 (upd H a u') x' y M' → M'.Nodup →
      (∀ b ∈ M', b ∈ M ∨ (b ∉ L ∧ Hf b = none ∧ c.H0 b = none ∧ H b ≠ none)) → c.SR K (r.set i x') s Hf (upd H a u') (A ++ M' ++ B) := by
  obtain ⟨y, A, M, B, h1, h2, h3, h4⟩ := sr.env.at e
  refine ⟨y, A, M, B, h1, h2, h3, fun a u u' x' M' ha hu hn ht hs hnd hM => ?_⟩
  have haL : a ∈ L := by rw [h2]; simp [ha]
  have nd := sr.nd
  rw [h2] at nd
  simp only [List.nodup_append, List.mem_append] at nd
  obtain ⟨⟨n1, n2, d1⟩, n3, d2⟩ := nd
  have out : ∀ b ∈ A ++ B, b ≠ a := fun b hb e => by
    subst e
    rcases List.mem_append.mp hb with hb | hb
    · exact d1 b hb b ha rfl
    · exact d2 b (.inr ha) b hb rfl
  have env' := h4 Hf (upd H a u') x' y M' (Same.refl _) (Tst.up hu ht) (fun b hb w q => by rw [upd_ne (out b hb)]; exact q) hs
  have es : s.set i y = s := by
    obtain ⟨hl, hg⟩ := List.getElem?_eq_some_iff.mp h1
    rw [← hg]; exact List.set_getElem_self hl
  rw [es] at env'
  have ha0 := (sr.fr a haL).2
  have haf := (sr.fr a haL).1
  have inL : ∀ b ∈ A ++ B, b ∈ L := fun b hb => by
    rw [h2]; simp only [List.mem_append] at hb ⊢
    rcases hb with hb | hb <;> simp [hb]
  have notM : ∀ b ∈ A ++ B, b ∉ M' := fun b hb hm => by
    rcases hM b hm with hm | hm
    · rcases List.mem_append.mp hb with hb | hb
      · exact d1 b hb b hm rfl
      · exact d2 b (.inr hm) b hb rfl
    · exact hm.1 (inL b hb)
  refine ⟨⟨?_, sr.ext.fsame, ?_, sr.ext.keep, fun h => (sr.ext.rows h).set hu hn⟩, env', ?_, fun b hb => ?_, fun b hb => ?_, sr.rows.set hu hn⟩
  · exact fun b w q => by rw [upd_ne (ne_of_none q ha0)]; exact sr.ext.same b w q
  · exact fun b w q => by rw [upd_ne (ne_of_none q haf)]; exact sr.ext.sub b w q
  · simp only [List.nodup_append, List.mem_append]
    refine ⟨⟨n1, hnd, fun b hb d hd e => ?_⟩, n3, fun b hb d hd e => ?_⟩
    · subst e; exact notM b (by simp [hb]) hd
    · subst e
      rcases hb with hb | hb
      · exact d2 b (.inl hb) b hd rfl
      · exact notM b (by simp [hd]) hb
  · simp only [List.mem_append] at hb
    rcases hb with (hb | hb) | hb
    · exact sr.fr b (inL b (by simp [hb]))
    · rcases hM b hb with hm | hm
      · exact sr.fr b (by rw [h2]; simp [hm])
      · exact ⟨hm.2.1, hm.2.2.1⟩
    · exact sr.fr b (inL b (by simp [hb]))
  · have ok : H b ≠ none := by
      simp only [List.mem_append] at hb
      rcases hb with (hb | hb) | hb
      · exact sr.ok b (inL b (by simp [hb]))
      · rcases hM b hb with hm | hm
        · exact sr.ok b (by rw [h2]; simp [hm])
        · exact hm.2.2.2
      · exact sr.ok b (inL b (by simp [hb]))
    by_cases hba : b = a
    · subst hba; rw [upd_same]; simp
    · rw [upd_ne hba]; exact ok
theorem putF_new {f : Str} {y : V} : ∀ {ns : List Str} {vs : List V}, ns.length = vs.length → f ∉ ns → putF f y (ns.zip vs) = (ns ++ [f]).zip (vs ++ [y])
  | [], [], _, _ => rfl
  | n :: ns, [], h, _ => by simp at h
  | [], v :: vs, h, _ => by simp at h
  | n :: ns, v :: vs, h, hf => by
    simp only [List.mem_cons, not_or] at hf
    show (if n = f then (n, y) :: ns.zip vs else (n, v) :: putF f y (ns.zip vs)) = _
    rw [if_neg (fun z => hf.1 z.symm), putF_new (by simpa using h) hf.2]
    rfl
def sFldM (tab : List Str) (i : Nat) (fn : Str) (g : FE) : FS := sUse g fun x r => match r[i]? with
  | some (.me a (.ob c ns os)) => (match newO x with
    | some o => if c ∈ tab ∧ fn ∉ ns ∧ ns.length < 500 ∧ ns ++ [fn] ≠ rowNs then .nx (r.set i (.me a (.ob c (ns ++ [fn]) (os ++ [o])))) else .bad
    | none => .bad)
  | _ => .bad
theorem newO_some {x : R} {o : O} (h : newO x = some o) : x = .nw o := by
  cases x with
  | nw o' => cases h; rfl
  | vw _ => cases h
  | bw _ => cases h
theorem ds_fldM {tab : List Str} {i : Nat} {fn : Str} {pos' : Pos} (hT : FldF X.K tab fn) (hv : PE X a (tVar i)) (h : DE c X e g) (hs : swapsWith e (some (.Attribute a fn pos')) pos.line X.env = pure false := by rfl) :
    DS c X (.Assign [.Attribute a fn pos'] e pos) (sFldM tab i fn g) := by
  obtain ⟨t, p, s⟩ := h.ex
  refine ⟨sFld X.K (tVar i) t fn, ps_fld hv p hs, fun r s' Hf H L sr D q => ?_⟩
  refine s.use sr q fun x v Hf1 H1 L1 x1 sr1 a1 n1 q1 => ?_
  cases er1 : r[i]? with
  | none => rw [er1] at q1; exact q1.elim
  | some z =>
    rw [er1] at q1
    cases z with
    | un => exact q1.elim
    | tq _ => exact q1.elim
    | lt _ _ => exact q1.elim
    | fa _ => exact q1.elim
    | vl _ _ => exact q1.elim
    | me am o0 =>
      cases o0 with
      | ob cc ns os =>
        dsimp only at q1
        cases en : newO x with
        | none => rw [en] at q1; exact q1.elim
        | some o =>
          rw [en] at q1
          dsimp only at q1
          by_cases hc : cc ∈ tab ∧ fn ∉ ns ∧ ns.length < 500 ∧ ns ++ [fn] ≠ rowNs
          case neg => rw [if_neg hc] at q1; exact q1.elim
          rw [if_pos hc] at q1
          have ex := newO_some en
          subst ex
          obtain ⟨y, A, M, B, h1, h2, h3, h4⟩ := sr1.put er1
          cases y with
          | none => exact h3.elim
          | some w =>
            obtain ⟨ew, a', dx, vs, M', e1, k1, k2, k3, k4, k5, k6⟩ := h3
            subst ew
            cases e1
            subst k6
            obtain ⟨f1, f2⟩ := hT cc hc.1
            have lv : vs.length = os.length := RepOs.length k4
            refine ⟨_, h1, am, _, dx, _, rfl, k1, f1, f2, by rw [List.length_zip]; omega, ?_⟩
            have nd := sr1.nd
            rw [h2] at nd
            simp only [List.nodup_append, List.mem_append, List.nodup_cons, List.mem_cons, not_or] at nd
            obtain ⟨⟨_, ⟨⟨nad, naM⟩, ndM, nM⟩, _⟩, _, _⟩ := nd
            have inL : ∀ b, b ∈ am :: dx :: M' → b ∈ L := fun b hb => by rw [h2]; simp only [List.mem_append]; exact .inl (.inr hb)
            have L1L : ∀ b ∈ L1, b ∉ L := fun b hb hl => (sr.ok b hl) (n1.fr b hb).1
            have L1a : ∀ b ∈ L1, b ≠ am := fun b hb e => L1L b hb (by rw [e]; exact inL am (by simp))
            have h0 : ∀ b ∈ L1, c.H0 b = none := fun b hb => sr.same0.free (n1.fr b hb).1
            have sr2 := h4 am _ (.ins (He.ga X.K cc) dx (putF fn v (ns.zip vs))) (.me am (.ob cc (ns ++ [fn]) (os ++ [o]))) (am :: dx :: (M' ++ L1)) List.mem_cons_self k1 (Hk.ne rfl) (fun _ z => nomatch z)
              ⟨rfl, am, dx, vs ++ [v], M' ++ L1, rfl, by rw [upd_same, putF_new (by rw [k3, lv]) hc.2.1], by rw [upd_ne (fun z => nad z.symm)]; exact k2, by simp [k3],
                RepOs.append (RepOs.mono (Same.refl _) os vs M' (fun b hb u q => by rw [upd_ne (fun z => naM (by rw [← z]; exact hb))]; exact q) k4) (RepO.mono (Same.refl _) o v L1 (fun b hb u q => by rw [upd_ne (L1a b hb)]; exact q) a1), hc.2.2.2, rfl⟩
              (by
                simp only [List.nodup_cons, List.mem_cons, List.mem_append, not_or, List.nodup_append]
                refine ⟨⟨nad, naM, fun z => L1a am z rfl⟩, ⟨ndM, fun z => L1L dx z (inL dx (by simp))⟩, nM, n1.nd, fun b hb d hd z => ?_⟩
                subst z
                exact L1L b hd (inL b (by simp [hb])))
              (fun b hb => by
                simp only [List.mem_cons, List.mem_append] at hb ⊢
                rcases hb with hb | hb | hb | hb
                · exact .inl (.inl hb)
                · exact .inl (.inr (.inl hb))
                · exact .inl (.inr (.inr hb))
                · exact .inr ⟨L1L b hb, (n1.fr b hb).2.1, h0 b hb, (n1.fr b hb).2.2⟩)
            exact q1 _ _ _ _ (Same.refl _) sr2
      | _ => exact q1.elim
end DL
namespace DL
open PySem L2
variable {c : Cn} {X : Cx} {a b e : Expr} {es : List Expr} {f g fa fb : FE} {pos : Pos} {fs : Env → Res (List O)} {K : PySem.W.Frag} {H0 H H' Hf Hf' : Hp} {F G : FS} {st : Stmt} {sts : List Stmt} {ft : Env → Res Bool}
section
variable {CX : CXT} {k : Nat} {fA C : Addr} {fd : FuncData} {ps : List Str} {sp : Sp} {E : St → XK} {x : Str} {p : Pos} {t : TA}
def tMakeA (C : Addr) (sp : Sp) (E : St → XK) (t : TA) : TE := fun σ H Q => t σ H fun vs H1 => ∀ x dx, H1 x = none → H1 dx = none → dx ≠ x →
  sp (.ref x :: vs) (upd (upd H1 dx (.own x)) x (.ins C dx [])) (fun v H2 => v = .non ∧ Q (.ref x) H2) (E σ)
theorem run_makeA {pins : List (Addr × Obj)} {σ : St} {H : Hp} {s : Shared} {Q : VK} {us : List Value} {vs : List V} (M : Mk X.K C fA) (F : FnOk X.prog X.w X.K X.mg X.base CX k fA fd ps sp) (hr : Room (k + 1) X.A) (hb : Binds X.K fd ps [])
    (hx : PassesAt CX X σ (E σ)) (I : Inv X pins σ H s) (r : Vals vs us)
    (h : ∀ x dx, H x = none → H dx = none → dx ≠ x → sp (.ref x :: vs) (upd (upd H dx (.own x)) x (.ins C dx [])) (fun v H2 => v = .non ∧ Q (.ref x) H2) (E σ)) :
    wpAny (model X.prog X.w) X.A (call (.ref C) us) (EP X pins σ Q) X.xe s := by
  have hq := h (s.heap.objs.size + 1) s.heap.objs.size (I.hok.fresh (Nat.le_succ _)) (I.hok.fresh (Nat.le_refl _)) (Nat.ne_of_lt (Nat.lt_succ_self _))
  have I2 := Inv.made (C := C) I
  have r2 : Vals (V.ref (s.heap.objs.size + 1) :: vs) (Value.ref (s.heap.objs.size + 1) :: us) := .cons rfl r
  have hl : (Value.ref (s.heap.objs.size + 1) :: us).length = ps.length := by
    have e := r2.length
    rw [F.len _ _ _ _ hq] at e
    exact e.symm
  have b := hb _ (Value.ref (s.heap.objs.size + 1) :: us) I2.kIn (by rw [List.append_nil]; exact hl)
  rw [List.append_nil] at b
  refine wpAny_call (make_map (f := fA) I.kIn M.makes M.init (beq_iff_eq.mp M.fn) (codeAny_mono (F.run _ X.stack _ _ ⟨Value.ref (s.heap.objs.size + 1) :: us, []⟩ (Value.ref (s.heap.objs.size + 1) :: us) _ _ (E σ) (hr.make C us [])
    (I2.env0.make C us []) b r2 hq) fun r s' hq' => ?_))
  cases r with
  | error e => exact hx pins _ _ e s' I2 hq'
  | ok fl =>
    cases fl with
    | ret u =>
      obtain ⟨v, H', I3, rv, ev, q3⟩ := I2.after hq'
      subst ev
      exact ⟨rv, ⟨V.ref (s.heap.objs.size + 1), H', I3, rfl, q3⟩⟩
    | next => exact False.elim hq'
    | brk => exact False.elim hq'
    | cont => exact False.elim hq'
theorem pe_makeA (M : Mk X.K C fA) (F : FnOk X.prog X.w X.K X.mg X.base CX k fA fd ps sp) (hr : Room (k + 1) X.A) (hg : Gl X x) (hm : X.mg x = some (.ref C)) (hb : Binds X.K fd ps []) (hx : ∀ σ, PassesAt CX X σ (E σ))
    (ha : PA X (e :: es) t) (hdb : (x == ("__debug__" : Str)) = false := by decide) (he : starEach (e :: es) X.env = (false, eval e X.env) :: starEach es X.env := by rfl) (hpl : (backTo pos (starEach es X.env)).any (·.1) = false := by rfl) :
    PE X (.Call (.Name x p) (e :: es) [] pos) (tMakeA C sp E t) := by
  refine ⟨fun pins s σ H Q I h => ?_⟩
  refine wpAny_Call_Name_kw (ld_glob I hg hm ?_ hdb)
  refine PySem.W.callWith_K (h₀ := X.base) I.ok.mod.kin M.kp (thn (ha.run pos pins s σ H _ I h) fun us s1 ⟨vs, H1, I1, r, q⟩ => ⟨I1.kIn, ?_⟩) he hpl
  exact run_makeA M F hr hb (hx σ) I1 r q
end
def startI (n : Nat) (c : Str) (a : Addr) (os : List O) : Env := S.me a (.ob c [] []) :: startE (n - 1) os
def runI (n : Nat) (c : Str) (F : FS) (a : Addr) : List O → Res O := fun os => match F (startI n c a os) with
  | .nx r => (match r[0]? with
    | some (S.me b o) => if b = a then .ok o else .bad
    | _ => .bad)
  | .exc e _ => .exc e
  | _ => .bad
def spI (K : PySem.W.Frag) (cn : Str) (n : Nat) (F : List O → Res O) : Sp := fun vs H Q E => ∃ (Hf H0 : Hp) (x dx : Addr) (ws : List V) (os : List O), vs = .ref x :: ws ∧ H = upd (upd H0 dx (.own x)) x (.ins (He.ga K cn) dx []) ∧ H0 x = none ∧ H0 dx = none ∧ dx ≠ x ∧
  Same Hf H0 ∧ Rows (tK K) Hf H0 ∧ RepVs K Hf H0 os ws ∧ os.length = n ∧ match F os with
  | .ok o => ∀ Hf' H' L, Ext Hf H0 Hf' H' → RepO K Hf' H' o (.ref x) L → Nw H0 Hf' H' L → Q .non H'
  | .exc e => ∀ cls d Hf' H', Ext Hf H0 Hf' H' → EcR K e cls d Hf' → E cls d H'
  | .bad => False
structure DefI (P : Program) (w : World) (K : PySem.W.Frag) (mg : Str → Option Value) (base : Heap) (x : Str) (k n : Nat) (F : List O → Res O) : Prop where
  ex : ∃ f fd ps, FnOk P w K mg base (L2.CX P w) k f fd ps (spI K x n F) ∧ Mk K (He.ga K x) f ∧ mg x = some (.ref (He.ga K x)) ∧ Binds K fd ps [] ∧ ps.length = n + 1
def eMake (F : List O → Res O) (fs : Env → Res (List O)) : FE := fun r => (fs r).bind fun os => (F os).bind fun o => .ok (.nw o)
theorem de_make {x : Str} {p : Pos} {j k n : Nat} {F : List O → Res O} (G : DefI X.prog X.w X.K X.mg X.base x j n F) (B : Bk c X k) (hj : j + 1 ≤ k) (hg : Gl X x) (h : DA c X (e :: es) fs)
    (hlen : ∀ r os, fs r = .ok os → os.length = n)
    (hdb : (x == ("__debug__" : Str)) = false := by decide) (he : starEach (e :: es) X.env = (false, eval e X.env) :: starEach es X.env := by rfl) (hpl : (backTo pos (starEach es X.env)).any (·.1) = false := by rfl) :
    DE c X (.Call (.Name x p) (e :: es) [] pos) (eMake F fs) := by
  obtain ⟨fA, fd, ps, Fo, mk, hm, hb, hn⟩ := G.ex
  obtain ⟨t, pa, s⟩ := h.ex
  refine ⟨tMakeA (He.ga X.K x) (spI X.K x n F) (WE c.W) t, pe_makeA mk Fo (B.hr.mono hj) hg hm hb (fun σ => passAt B.tk σ) pa hdb he hpl, fun r s' Hf H L sr Q q => ?_⟩
  refine s r s' Hf H L sr _ ?_
  cases e0 : fs r with
  | bad => simp only [eMake, e0, Res.bind] at q; exact q.elim
  | exc e' => simp only [eMake, e0, Res.bind] at q; exact q
  | ok os =>
    simp only [eMake, e0, Res.bind] at q
    intro vs Hf1 H1 x1 a1 xa dx nx nd ne
    refine ⟨Hf1, H1, xa, dx, vs, os, rfl, rfl, nx, nd, ne, x1.sub, x1.rows sr.rows, a1, hlen r os e0, ?_⟩
    cases e1 : F os with
    | bad => rw [e1] at q; exact q.elim
    | exc e' =>
      rw [e1] at q
      exact fun cls d Hf2 H2 x2 h2 => q cls d Hf2 H2 (x1.trans x2) h2
    | ok o =>
      rw [e1] at q
      exact fun Hf2 H2 L2 x2 h2 n2 => ⟨rfl, q _ Hf2 H2 L2 (x1.trans x2) h2 (n2.mono x1.same)⟩
structure DefN (K : PySem.W.Frag) (mg : Str → Option Value) (x : Str) : Prop where
  mks : PySem.W.makesIn K (He.ga K x) = true
  hi : PySem.W.findIn K (.ref (He.ga K x)) "__init__" = some (some (.builtin "object.__init__"))
  kp : PySem.W.keepIn K (.ref (He.ga K x)) = true
  hm : mg x = some (.ref (He.ga K x))
theorem obj_new {cn : Str} {x dx : Addr} (sub : Same Hf H) (nx : H x = none) (nd : H dx = none) (ne : dx ≠ x) : Ext Hf H Hf (upd (upd H dx (.own x)) x (.ins (He.ga K cn) dx [])) ∧
    RepO K Hf (upd (upd H dx (.own x)) x (.ins (He.ga K cn) dx [])) (.ob cn [] []) (.ref x) [x, dx] ∧ Nw H Hf (upd (upd H dx (.own x)) x (.ins (He.ga K cn) dx [])) [x, dx] := by
  have x1 : Ext Hf H Hf (upd H dx (.own x)) := Ext.new sub nd
  have nx' : upd H dx (.own x) x = none := by rw [upd_ne ne.symm]; exact nx
  refine ⟨x1.trans (Ext.new x1.sub nx'), ⟨x, dx, [], [], rfl, upd_same, by rw [upd_ne ne, upd_same], rfl, ⟨rfl, rfl⟩, by decide, rfl⟩, ⟨by simp [ne.symm], fun b hb => ?_⟩⟩
  simp only [List.mem_cons, List.not_mem_nil, or_false] at hb
  rcases hb with rfl | rfl
  · exact ⟨nx, sub_none sub nx, by rw [upd_same]; simp⟩
  · exact ⟨nd, sub_none sub nd, by rw [upd_ne ne, upd_same]; simp⟩
section
variable {P : Program} {w : World} {mg : Str → Option Value} {base : Heap} {x m qual : Str} {params : Arguments} {body : List Stmt} {scope : Scope} {fA : Addr} {fd : FuncData} {N ps : List Str} {k n : Nat}
theorem DefM.ofD (Fn : FunD K x qual params body scope [] [] fA fd) (S : FnScope N ps scope) {cn : Str} (cl : Cls K (He.ga K cn)) (hm : Meth K (He.ga K cn) m fA) (hb : Binds K fd ps []) (hn : ps.length = n) (F : FS)
    (hbody : ∀ (cdv : Value) (A : Around) (outer : List PySem.Env) (s : Shared) (H : Hp) (E : XK) (Hf : Hp), Bk ⟨Hf, H, fun cls d _ H' => E cls d H'⟩ (cxOf (L2.CX P w) P w K mg base N qual scope fA cdv A outer s H E) k →
      DSs ⟨Hf, H, fun cls d _ H' => E cls d H'⟩ (cxOf (L2.CX P w) P w K mg base N qual scope fA cdv A outer s H E) body F) : DefM P w K mg base cn m (k + 1) n (runF N.length F) := by
  refine ⟨fA, fd, ps, ?_, cl, hm, hb, hn⟩
  subst hn
  refine Fn.ok S (fun vs H Q E h => ?_) (fun cdv A outer s H vs Q E hr h => ?_)
  · obtain ⟨Hf, os, _, _, h2, h3, _⟩ := h
    rw [RepVs.length h2, h3]
  · obtain ⟨Hf, os, sub, hro, h2, h3, h4⟩ := h
    have B : Bk ⟨Hf, H, fun cls d _ H' => E cls d H'⟩ (cxOf (L2.CX P w) P w K mg base N qual scope fA cdv A outer s H E) k := ⟨hr, takes_of rfl rfl rfl rfl, passes_of rfl, rfl⟩
    obtain ⟨t, p, so⟩ := (hbody cdv A outer s H E Hf B).ex
    refine ⟨t, p, ?_⟩
    have hl : vs.length = os.length := RepVs.length h2
    have sr : SR K Hf H (startE N.length os) (L2.start N vs) Hf H [] := by
      refine ⟨Ext.refl sub, ?_, List.nodup_nil, (fun _ h => nomatch h), (fun _ h => nomatch h), hro⟩
      unfold startE L2.start
      rw [hl]
      exact env_start h2
    refine so _ _ Hf H [] sr _ ?_
    unfold runF at h4
    cases e : F (startE N.length os) with
    | ret o => rw [e] at h4; exact fun v Hf' H' L _ x q n => h4 v Hf' H' L x q n
    | nx r => rw [e] at h4; exact fun s Hf' H' L f sr' => h4 .non Hf' H' [] sr'.ext ⟨rfl, rfl⟩ nw_nil
    | bk r => rw [e] at h4; exact h4.elim
    | ct r => rw [e] at h4; exact h4.elim
    | exc e' r => rw [e] at h4; exact fun s cls d Hf' H' L _ sr' h => h4 cls d Hf' H' sr'.ext h
    | bad => rw [e] at h4; exact h4.elim
theorem DefM.imp {cn : Str} {F F' : List O → Res O} (D : DefM P w K mg base cn m k n F) (h : ∀ os, os.length = n → F' os = .bad ∨ F' os = F os) : DefM P w K mg base cn m k n F' := by
  obtain ⟨fa, fd, ps, h1, h2⟩ := D.ex
  refine ⟨fa, fd, ps, h1.imp fun vs H Q E q => ?_, h2⟩
  obtain ⟨Hf, os, q1, q0, q2, q3, q4⟩ := q
  refine ⟨Hf, os, q1, q0, q2, q3, ?_⟩
  rcases h os q3 with e | e
  · rw [e] at q4; exact q4.elim
  · rw [← e]; exact q4
theorem DefI.ofD (Fn : FunD K x qual params body scope [] [] fA fd) (S : FnScope N ps scope) {cn : Str} (mk : Mk K (He.ga K cn) fA) (hm : mg cn = some (.ref (He.ga K cn))) (hb : Binds K fd ps []) (hn : ps.length = n + 1) (hN : N.length ≠ 0) (F : FS) (M : List O → Res O)
    (hbody : ∀ (cdv : Value) (A : Around) (outer : List PySem.Env) (s : Shared) (H H0 : Hp) (E : XK) (Hf : Hp), Bk ⟨Hf, H0, fun cls d _ H' => E cls d H'⟩ (cxOf (L2.CX P w) P w K mg base N qual scope fA cdv A outer s H E) k →
      DSs ⟨Hf, H0, fun cls d _ H' => E cls d H'⟩ (cxOf (L2.CX P w) P w K mg base N qual scope fA cdv A outer s H E) body F)
    (himp : ∀ a os, os.length = n → M os = .bad ∨ M os = runI N.length cn F a os) : DefI P w K mg base cn (k + 1) n M := by
  refine ⟨fA, fd, ps, ?_, mk, hm, hb, hn⟩
  refine Fn.ok S (fun vs H Q E h => ?_) (fun cdv A outer s H vs Q E hr h => ?_)
  · obtain ⟨Hf, H0, x, dx, ws, os, ev, _, _, _, _, _, _, h2, h3, _⟩ := h
    rw [ev, List.length_cons, RepVs.length h2, h3, hn]
  · obtain ⟨Hf, H0, x, dx, ws, os, ev, eH, nx, nd, ne, sub, hro, h2, h3, h4⟩ := h
    have B : Bk ⟨Hf, H0, fun cls d _ H' => E cls d H'⟩ (cxOf (L2.CX P w) P w K mg base N qual scope fA cdv A outer s H E) k := ⟨hr, takes_of rfl rfl rfl rfl, passes_of rfl, rfl⟩
    obtain ⟨t, p, so⟩ := (hbody cdv A outer s H H0 E Hf B).ex
    refine ⟨t, p, ?_⟩
    obtain ⟨o1, o2, o3⟩ := obj_new (K := K) (cn := cn) sub nx nd ne
    rw [← eH] at o1 o2 o3
    have hl : ws.length = os.length := RepVs.length h2
    have env1 : EnvR K Hf H0 H (startE (N.length - 1) os) (ws.map some ++ List.replicate (N.length - 1 - ws.length) none) [] := by
      unfold startE
      rw [hl]
      exact env_start h2
    have est : L2.start N vs = some (.ref x) :: (ws.map some ++ List.replicate (N.length - 1 - ws.length) none) := by
      unfold L2.start
      rw [ev]
      simp only [List.map_cons, List.cons_append, List.length_cons]
      rw [show N.length - (ws.length + 1) = N.length - 1 - ws.length by omega]
    have sr : SR K Hf H0 (startI N.length cn x os) (L2.start N vs) Hf H [x, dx] := by
      refine ⟨o1, ?_, o3.nd, fun b hb => ⟨(o3.fr b hb).2.1, (o3.fr b hb).1⟩, fun b hb => (o3.fr b hb).2.2, o1.rows hro⟩
      rw [est]
      exact ⟨_, _, [x, dx], [], rfl, by simp, ⟨rfl, o2⟩, env1⟩
    refine so _ _ Hf H _ sr _ ?_
    rcases himp x os h3 with z | z
    · rw [z] at h4; exact h4.elim
    · rw [z] at h4
      unfold runI at h4
      cases e : F (startI N.length cn x os) with
      | ret o => rw [e] at h4; exact h4.elim
      | nx r =>
        rw [e] at h4
        dsimp only at h4
        intro s1 Hf1 H1 L1 f1 sr1
        cases e0 : r[0]? with
        | none => rw [e0] at h4; exact h4.elim
        | some z0 =>
          rw [e0] at h4
          cases z0 with
          | un => exact h4.elim
          | tq _ => exact h4.elim
          | lt _ _ => exact h4.elim
          | fa _ => exact h4.elim
          | vl _ _ => exact h4.elim
          | me a1 o1 =>
            dsimp only at h4
            by_cases hx : a1 = x
            · rw [if_pos hx] at h4
              subst hx
              obtain ⟨y, A1, M1, B1, k1, k2, k3, _⟩ := sr1.env.at e0
              cases y with
              | none => exact k3.elim
              | some v =>
                obtain ⟨ev1, k4⟩ := k3
                subst ev1
                have sub : ∀ b ∈ M1, b ∈ L1 := fun b hb => by rw [k2]; simp [hb]
                have nd := sr1.nd
                rw [k2] at nd
                simp only [List.nodup_append] at nd
                exact h4 Hf1 H1 M1 sr1.ext k4 ⟨nd.1.2.1, fun b hb => ⟨(sr1.fr b (sub b hb)).2, (sr1.fr b (sub b hb)).1, sr1.ok b (sub b hb)⟩⟩
            · rw [if_neg hx] at h4; exact h4.elim
      | bk r => rw [e] at h4; exact h4.elim
      | ct r => rw [e] at h4; exact h4.elim
      | exc e' r => rw [e] at h4; exact fun s cls d Hf' H' L _ sr' h => h4 cls d Hf' H' sr'.ext h
      | bad => rw [e] at h4; exact h4.elim
end
end DL
namespace DL
open PySem L2
variable {c : Cn} {X : Cx} {a b e : Expr} {es : List Expr} {f g fa fb : FE} {pos : Pos} {fs : Env → Res (List O)} {K : PySem.W.Frag} {H0 H H' Hf Hf' : Hp} {F G : FS} {st : Stmt} {sts : List Stmt} {ft : Env → Res Bool}
def spNk (K : PySem.W.Frag) (C : Addr) (fn : Str) : Sp := fun vs H Q _ => ∃ (a : Addr) (y : V), vs = [.ref a, y] ∧ H a = some (exo a C none) ∧ ∀ d, H d = none → d ≠ a → Q .non (upd (upd H d (exd d [(fn, y)])) a (exo a C (some d)))
structure NkT (P : Program) (w : World) (K : PySem.W.Frag) (mg : Str → Option Value) (base : Heap) (x fn : Str) (k : Nat) : Prop where
  cls : OexC K (He.ga K x)
  ex : ∃ fI fd ps, FnOk P w K mg base CX0 k fI fd ps (spNk K (He.ga K x) fn) ∧ PySem.W.findIn K (.ref (He.ga K x)) "__init__" = some (some (.ref fI)) ∧ PySem.W.typeIn K (.ref fI) = some (.type "function") ∧ Binds K fd ps []
  g : mg x = some (.ref (He.ga K x))
  n : PySem.W.nsIn K mainGlobals x = some (some (.ref (He.ga K x)))
def XfT (K : PySem.W.Frag) (fn : Str) (tab : List Str) : Prop := ∀ n ∈ tab, ∀ D, PySem.W.nsIn K mainGlobals n = some (some (.ref D)) → XfC K D ∧ PySem.W.findIn K (.ref D) fn = some none
structure NkF (K : PySem.W.Frag) : Prop where
  oex : OexC K (He.ga K "NotKept")
  no : PySem.W.findIn K (.ref (He.ga K "NotKept")) "place" = some none
  iC : PySem.W.findIn K (.ref (He.ga K "NotKept")) "__init__" = some (some (.ref (He.ma K (He.ga K "NotKept") "__init__")))
  tI : PySem.W.typeIn K (.ref (He.ma K (He.ga K "NotKept") "__init__")) = some (.type "function")
  rd : PySem.W.readsIn K (He.ga K "SumError") (.type "type") = true
  gaS : PySem.W.specialIn K (.ref (He.ga K "SumError")) "__getattribute__" = some (some (.builtin "type.__getattribute__"))
  vV : PySem.W.findCls K (.ref (He.ga K "SumError")) (.type "type") "__init__" = some (.val (.builtin "ValueError.__init__"))
  xf : XfC K (He.ga K "NotKept")
  n : PySem.W.nsIn K mainGlobals "NotKept" = some (some (.ref (He.ga K "NotKept")))
theorem NkF.xt (T : NkF K) : XfT K "place" ["NotKept"] := fun n hn D hD => by
  have e : n = "NotKept" := by simpa using hn
  subst e
  rw [T.n] at hD
  cases hD
  exact ⟨T.xf, T.no⟩
end DL
namespace DL
open PySem L2
variable {c : Cn} {X : Cx} {a b e : Expr} {es : List Expr} {f g fa fb : FE} {pos : Pos} {fs : Env → Res (List O)} {K : PySem.W.Frag} {H0 H H' Hf Hf' : Hp} {F G : FS} {st : Stmt} {sts : List Stmt} {ft : Env → Res Bool}
section
variable {a C dx : Addr} {fl : List (Str × V)}
end
theorem kn_code {k c : Addr} {vs : List V} {q : Str} (e : Kn k vs = LamX.CodeO c q) : False := by
  have e1 := HO.ext.inj e
  let o : Obj := { cls := .none, data := .fields #[.none, .str q 0] }
  let h : Heap := { objs := Array.replicate (c + k + 1) o }
  have g : ∀ b : Nat, Nat.le b (Nat.add c k) → h.get? b = some o := fun b hb => by
    have : h.objs[b]? = some o := by
      show (Array.replicate (c + k + 1) o)[b]? = some o
      rw [Array.getElem?_replicate]
      exact if_pos (Nat.lt_succ_of_le hb)
    unfold Heap.get?
    rw [this]
  have z := congrFun e1 h
  have z2 : vs.length ≤ sizeLine ∧ ∃ (its : List Value) (n : Nat), Vals vs its ∧ h.get? k = some { cls := .type "list", data := .seq its.toArray n } := by
    rw [z]
    exact ⟨o, #[.none, .str q 0], 0, g c (Nat.le_add_right c k), rfl, rfl⟩
  obtain ⟨_, its, n, _, z3⟩ := z2
  rw [g k (Nat.le_add_left k c)] at z3
  have := congrArg Obj.data (Option.some.inj z3)
  cases this
theorem Ext.at_k {k : Addr} {vs ws : List V} (x : Ext Hf H Hf' H') (hk : H k = some (.lst vs)) (hf : Hf k = none) : Ext Hf (upd H k (.lst ws)) Hf' (upd H' k (.lst ws)) := by
  have hk' := x.same.lst hk
  have hf' := x.nf (a := k) (by rw [hk]; simp) hf
  refine ⟨fun b o h => ?_, x.fsame, fun b o h => ?_, fun b h1 h2 => x.keep b (fun z => h1 ?_) h2, fun {T} h => ?_⟩
  · by_cases hb : b = k
    · subst hb; rw [upd_same] at h ⊢; exact .inl h
    · rw [upd_ne hb] at h ⊢; exact x.same b o h
  · by_cases hb : b = k
    · subst hb; rw [hf'] at h; cases h
    · rw [upd_ne hb]; exact x.sub b o h
  · by_cases hb : b = k
    · subst hb; rw [hk] at z; cases z
    · rw [upd_ne hb]; exact z
  · have h1 : Rows T Hf H := by
      have h2 := h.set (o' := .lst vs) (p := k) upd_same (Hk.ne rfl)
      rw [upd_upd] at h2
      have e : upd H k (.lst vs) = H := by
        funext b
        by_cases hb : b = k
        · rw [hb, upd_same, hk]
        · rw [upd_ne hb]
      rw [e] at h2
      exact h2
    exact (x.rows h1).set hk' (Hk.ne rfl)
theorem paired_get {α β : Type} {F : α → β → Prop} : ∀ {l : List α} {ws : List β} {i : Nat} {x : α}, Paired F l ws → l[i]? = some x → ∃ w, ws[i]? = some w ∧ F x w
  | _, _, _, _, .nil, e => by simp at e
  | _, _, 0, x, .cons r _, e => by simp at e; subst e; exact ⟨_, rfl, r⟩
  | _, _, i + 1, x, .cons _ t, e => by
    obtain ⟨u, h1, h2⟩ := paired_get (i := i) (x := x) t (by simpa using e)
    exact ⟨u, by simpa using h1, h2⟩
end DL
namespace DL
open PySem L2
variable {c : Cn} {X : Cx} {a b e : Expr} {es : List Expr} {f g fa fb : FE} {pos : Pos} {fs : Env → Res (List O)} {K : PySem.W.Frag} {H0 H H' Hf Hf' : Hp} {F G : FS} {st : Stmt} {sts : List Stmt} {ft : Env → Res Bool}
theorem tabNil {α : Type} {P : α → Prop} : ∀ p ∈ ([] : List α), P p := fun _ h => nomatch h
theorem tabCons {α : Type} {P : α → Prop} {a : α} {l : List α} (h : P a) (t : ∀ p ∈ l, P p) : ∀ p ∈ a :: l, P p := fun p hp => by
  rcases List.mem_cons.mp hp with e | e
  · subst e; exact h
  · exact t p e
theorem fldNil {f : Str} : FldF K [] f := fun _ h => nomatch h
theorem fldCons {f c : Str} {l : List Str} (h1 : Cls K (He.ga K c)) (h2 : NoAttr K (He.ga K c) f) (t : FldF K l f) : FldF K (c :: l) f := tabCons (P := fun c => Cls K (He.ga K c) ∧ NoAttr K (He.ga K c) f) ⟨h1, h2⟩ t
end DL
namespace DL
open PySem L2
variable {c : Cn} {X : Cx} {a b e : Expr} {es : List Expr} {f g fa fb : FE} {pos : Pos} {fs : Env → Res (List O)} {K : PySem.W.Frag} {H0 H H' Hf Hf' : Hp} {F G : FS} {st : Stmt} {sts : List Stmt} {ft : Env → Res Bool}
def ipW : TIp := fun x y H Q => ∃ i j, x = .int i ∧ y = .int j ∧ CMulH i j ∧ Q (.int (i * j)) H
theorem ip_mulW : PIp X .Mult ipW := by
  intro pins s σ H x y v u Q I r1 r2 h
  obtain ⟨i, j, e1, e2, hc, q⟩ := h
  subst e1; subst e2
  obtain ⟨t, rfl⟩ := r1
  obtain ⟨t', rfl⟩ := r2
  exact PyProof.Rows.imul_int ⟨.int _, H, I.tok _, ⟨_, rfl⟩, q⟩ hc.ok.ok
theorem ds_augM {i : Nat} {x : Str} {pos' : Pos} (hN : X.N.Nodup) (hi : X.N[i]? = some x) (hx : Loc X.env.scope x) (h : DE c X e f)
    (hf : X.fn x = true ∨ X.env.scope.names.lookup x = some .local := by first | exact .inl rfl | exact .inr rfl | assumption) : DS c X (.AugAssign (.Name x pos') .Mult e pos) (sAug i gMul f) := by
  obtain ⟨t, p, s⟩ := h.ex
  refine ⟨tAug i t ipW, ps_aug hN hi hx p ip_mulW hf, fun r s' Hf H L sr D q => ?_⟩
  cases er1 : r[i]? with
  | none => simp only [sAug, er1] at q; exact q.elim
  | some y =>
    cases y with
    | un => simp only [sAug, er1] at q; exact q.elim
    | me _ _ => simp only [sAug, er1] at q; exact q.elim
    | tq _ => simp only [sAug, er1] at q; exact q.elim
    | lt _ _ => simp only [sAug, er1] at q; exact q.elim
    | fa _ => simp only [sAug, er1] at q; exact q.elim
    | vl w o =>
      simp only [sAug, er1] at q
      obtain ⟨v, hv, rv⟩ := sr.slot er1
      refine ⟨v, hv, ?_⟩
      refine s.use sr q fun x u Hf1 H1 L1 x1 sr1 a1 n1 q1 => ?_
      have a2 := (a1.argR n1).a (sr1.same0)
      cases eg : gMul o x.a with
      | bad => rw [eg] at q1; exact q1.elim
      | exc _ => rw [eg] at q1; exact q1.elim
      | ok z =>
        rw [eg] at q1
        obtain ⟨m, n, e1, e2, e4, e3⟩ := gInt_ok eg
        subst e1 e3
        rw [e2] at a2
        refine ⟨m, n, rv, a2, by unfold CMulH; exact of_decide_eq_true e4, ?_⟩
        by_cases hl : i < r.length
        · simp only [put, setS, if_pos hl] at q1
          obtain ⟨Hf2, L2, f2, sr2⟩ := sr1.store (own := false) (Ext.refl sr1.sub) (fun _ => sr1.ext.same.ne_none) sr1.ok (fz_new (K := X.K) (H0 := c.H0) (H := H1) (d := DL.D.int (m * n)) (v := V.int (m * n)) rfl) nw_nil rfl hl
          exact q1 _ _ _ _ f2 sr2
        · simp only [put, setS, if_neg hl] at q1; exact q1.elim
def gTup1 : List O → Res R
  | [o] => (match items o with | some os => tupR os | none => .bad)
  | _ => .bad
theorem call_tupleL {X : Cx} : CallR X (.type "tuple") (fun xs H Q => ∃ p ys, xs = [.ref p] ∧ SqL X.K H p ys ∧ ∀ l, H l = none → Q (.ref l) (upd H l (.tup ys))) := by
  intro pins s σ H xs us Q I r h
  obtain ⟨p, ys, e1, h1, h2⟩ := h
  exact call_tuple_of pins s σ H xs us Q I r ⟨p, ys, e1, .inl ⟨h1, h2⟩⟩
theorem pc_tup1 : PureC K (fun xs H Q => ∃ p ys, xs = [.ref p] ∧ SqL K H p ys ∧ ∀ l, H l = none → Q (.ref l) (upd H l (.tup ys))) gTup1 := fun c s Hf H vs os Q sub h q => by
  cases os with
  | nil => exact q.elim
  | cons o os =>
    cases os with
    | cons _ _ => exact q.elim
    | nil =>
      obtain ⟨v, e, h1⟩ := rep1 h
      subst e
      cases ei : items o with
      | none => simp only [gTup1, ei] at q; exact q.elim
      | some os =>
        simp only [gTup1, ei] at q
        cases ed : toDs os with
        | none => simp only [tupR, ed] at q; exact q.elim
        | some ds =>
          simp only [tupR, ed] at q
          by_cases hc : ds.length ≤ 1000
          · rw [if_pos hc] at q
            obtain ⟨a, vs, e1, h2, h3⟩ := items_rep sub h1 ei
            subst e1
            exact ⟨a, vs, rfl, h2, fun l hl => postE_tup sub q (toDs_rep ed h3) hl⟩
          · rw [if_neg hc] at q; exact q.elim
section
variable {prog : Program} {w : World} {A : Around} {E : Value → Shared → Prop} {s : Shared}
theorem old_keptT {l : Addr} {h' : Heap} (hk : ∀ b o, b ∉ [s.heap.objs.size] → (s.heap.push { cls := .type "tuple_iterator", data := .fields #[.ref l, .int 0 0] }).get? b = some o → h'.get? b = some o) :
    ∀ b o, s.heap.get? b = some o → h'.get? b = some o := fun b o e => hk b o (by simpa using Nat.ne_of_lt (Heap.lt_size e)) (Heap.get?_push_of_some _ e)
theorem minT_raw {l : Addr} {its : List Value} {ns : List Int} {Q : Value → Shared → Prop} (hh : A.handled = none) (hl : s.heap.IsTuple l its.toArray) (hi : PyProof.Rows.IntsAre its ns) (hne : 0 < ns.length)
    (h : ∀ h' tk M t', (∀ b o, s.heap.get? b = some o → h'.get? b = some o) → M ∈ ns → (∀ a, a ∈ ns → M ≤ a) → Q (.int M t') { s with heap := h', toks := tk }) : wpAny (model prog w) A (call (.builtin "min") [.ref l]) Q E s := by
  obtain ⟨xs, e⟩ := hi.allInts.items
  have hn : numsOf (intItems xs).toList = ns := by rw [← e]; exact hi.numsOf
  rw [nums_intItems] at hn
  subst hn
  rw [e] at hl
  have hsz : 0 < xs.size := by simpa using hne
  have hlt : l < s.heap.objs.size := by obtain ⟨_, e, _⟩ := hl; exact Heap.lt_size e
  refine call_min_walk (wpAny_pyIter_tuple hl ?_)
  refine ⟨_, _, _, _, _, _, _, rfl, Walks.tuple (A := A.in1) hh _ l (Nat.ne_of_lt hlt) (intItems xs), ⟨⟨_, Heap.get?_push_size _ rfl, rfl, rfl⟩, hl.push _⟩, fun b hb => ?_, by simpa [intItems] using hsz, CmpOf.ints_lt (numAt xs) (fun _ _ => intItems_at), fun v h' tk hP hk => ?_⟩
  · show b < (s.heap.push _).objs.size
    rw [Heap.size_push]
    simp only [List.mem_cons, List.not_mem_nil, or_false] at hb
    rcases hb with rfl | rfl
    · exact Nat.lt_succ_self _
    · exact Nat.lt_succ_of_lt hlt
  · have hP' : (intItems xs)[argBest (fun i j => decide (numAt xs i < numAt xs j)) (xs.size - 1)]? = some v := by simpa [intItems] using hP
    obtain ⟨t, rfl⟩ := intItems_at hP'
    obtain ⟨h1, h2⟩ := argBest_lt (numAt xs) (xs.size - 1)
    refine h h' tk _ t (old_keptT hk) ?_ fun a ha => ?_
    · rw [numAt_eq]; exact PySem.getD_mem (by rw [List.length_map, Array.length_toList]; omega)
    · obtain ⟨j, hj, rfl⟩ := mem_getD ha
      rw [List.length_map, Array.length_toList] at hj
      rw [← numAt_eq]; exact h2 j (by omega)
theorem maxT_raw {l : Addr} {its : List Value} {ns : List Int} {Q : Value → Shared → Prop} (hh : A.handled = none) (hl : s.heap.IsTuple l its.toArray) (hi : PyProof.Rows.IntsAre its ns) (hne : 0 < ns.length)
    (h : ∀ h' tk M t', (∀ b o, s.heap.get? b = some o → h'.get? b = some o) → M ∈ ns → (∀ a, a ∈ ns → a ≤ M) → Q (.int M t') { s with heap := h', toks := tk }) : wpAny (model prog w) A (call (.builtin "max") [.ref l]) Q E s := by
  obtain ⟨xs, e⟩ := hi.allInts.items
  have hn : numsOf (intItems xs).toList = ns := by rw [← e]; exact hi.numsOf
  rw [nums_intItems] at hn
  subst hn
  rw [e] at hl
  have hsz : 0 < xs.size := by simpa using hne
  have hlt : l < s.heap.objs.size := by obtain ⟨_, e, _⟩ := hl; exact Heap.lt_size e
  refine call_max_walk (wpAny_pyIter_tuple hl ?_)
  refine ⟨_, _, _, _, _, _, _, rfl, Walks.tuple (A := A.in1) hh _ l (Nat.ne_of_lt hlt) (intItems xs), ⟨⟨_, Heap.get?_push_size _ rfl, rfl, rfl⟩, hl.push _⟩, fun b hb => ?_, by simpa [intItems] using hsz, CmpOf.ints_gt (numAt xs) (fun _ _ => intItems_at), fun v h' tk hP hk => ?_⟩
  · show b < (s.heap.push _).objs.size
    rw [Heap.size_push]
    simp only [List.mem_cons, List.not_mem_nil, or_false] at hb
    rcases hb with rfl | rfl
    · exact Nat.lt_succ_self _
    · exact Nat.lt_succ_of_lt hlt
  · have hP' : (intItems xs)[argBest (fun i j => decide (numAt xs i > numAt xs j)) (xs.size - 1)]? = some v := by simpa [intItems] using hP
    obtain ⟨t, rfl⟩ := intItems_at hP'
    obtain ⟨h1, h2⟩ := argBest_gt (numAt xs) (xs.size - 1)
    refine h h' tk _ t (old_keptT hk) ?_ fun a ha => ?_
    · rw [numAt_eq]; exact PySem.getD_mem (by rw [List.length_map, Array.length_toList]; omega)
    · obtain ⟨j, hj, rfl⟩ := mem_getD ha
      rw [List.length_map, Array.length_toList] at hj
      rw [← numAt_eq]; exact h2 j (by omega)
end
section
def rMinT (K : PySem.W.Frag) : List V → Hp → VK → Prop := fun vs H Q => ∃ (a : Addr) (ns : List Int), vs = [V.ref a] ∧ SqT K H a (ns.map V.int) ∧ 0 < ns.length ∧ ∀ m, m ∈ ns → (∀ y, y ∈ ns → m ≤ y) → Q (.int m) H
def rMaxT (K : PySem.W.Frag) : List V → Hp → VK → Prop := fun vs H Q => ∃ (a : Addr) (ns : List Int), vs = [V.ref a] ∧ SqT K H a (ns.map V.int) ∧ 0 < ns.length ∧ ∀ m, m ∈ ns → (∀ y, y ∈ ns → y ≤ m) → Q (.int m) H
theorem cr_minT (hc : X.calm = true) : CallR X (.builtin "min") (rMinT X.K) := by
  intro pins s σ H vs us Q I r h
  obtain ⟨a, ns, rfl, hs, hne, q⟩ := h
  obtain ⟨its, rv, hl, _⟩ := I.tuple hs
  rw [Vals.ref1 r]
  exact minT_raw (I.ok.hd hc) hl rv.ints hne fun h' tk m t' hk h1 h2 => ⟨.int _, H, I.kept hk, ⟨_, rfl⟩, q m h1 h2⟩
theorem cr_maxT (hc : X.calm = true) : CallR X (.builtin "max") (rMaxT X.K) := by
  intro pins s σ H vs us Q I r h
  obtain ⟨a, ns, rfl, hs, hne, q⟩ := h
  obtain ⟨its, rv, hl, _⟩ := I.tuple hs
  rw [Vals.ref1 r]
  exact maxT_raw (I.ok.hd hc) hl rv.ints hne fun h' tk m t' hk h1 h2 => ⟨.int _, H, I.kept hk, ⟨_, rfl⟩, q m h1 h2⟩
end
def tupD : O → Option (List D)
  | .fz (.tup ds) => some ds
  | _ => none
theorem tupD_rep {o : O} {ds : List D} {v : V} (h : RepV K Hf H o v) (e : tupD o = some ds) : ∃ a vs, v = .ref a ∧ Hf a = some (.tup vs) ∧ Reps K Hf ds vs := by
  cases o with
  | fz d =>
    cases d with
    | tup ds' => cases e; exact h
    | _ => cases e
  | _ => cases e
def intsD : List D → Option (List Int)
  | [] => some []
  | .int i :: ds => (intsD ds).map (i :: ·)
  | _ :: _ => none
theorem intsD_rep : ∀ {ds : List D} {ns : List Int} {vs : List V}, intsD ds = some ns → Reps K Hf ds vs → vs = ns.map V.int
  | [], ns, vs, e, h => by cases e; exact h
  | d :: ds, ns, vs, e, h => by
    obtain ⟨v, r, e1, h1, h2⟩ := h
    cases d with
    | int i =>
      cases e2 : intsD ds with
      | none => simp [intsD, e2] at e
      | some ms =>
        have e' : i :: ms = ns := by simpa [intsD, e2] using e
        rw [← e', e1, intsD_rep e2 h2, show v = .int i from h1]; rfl
    | _ => cases e
def gMinT : List O → Res R
  | [o] => (match (tupD o).bind intsD with | some (x :: xs) => fzR (.int (minL x xs)) | _ => .bad)
  | _ => .bad
def gMaxT : List O → Res R
  | [o] => (match (tupD o).bind intsD with | some (x :: xs) => fzR (.int (maxL x xs)) | _ => .bad)
  | _ => .bad
theorem tints_rep {o : O} {ns : List Int} {v : V} (sub : Same Hf H) (h : RepV K Hf H o v) (e : (tupD o).bind intsD = some ns) : ∃ a, v = .ref a ∧ SqT K H a (ns.map V.int) := by
  cases ei : tupD o with
  | none => rw [ei] at e; cases e
  | some ds =>
    rw [ei] at e
    obtain ⟨a, vs, e1, h1, h2⟩ := tupD_rep h ei
    rw [intsD_rep (show intsD ds = some ns from e) h2] at h1
    exact ⟨a, e1, .of (sub _ _ h1)⟩
theorem pc_minT : PureC K (rMinT K) gMinT := fun c s Hf H vs os Q sub h q => by
  cases os with
  | nil => exact q.elim
  | cons o os =>
    cases os with
    | cons _ _ => exact q.elim
    | nil =>
      obtain ⟨v, e, h1⟩ := rep1 h
      subst e
      cases ei : (tupD o).bind intsD with
      | none => simp only [gMinT, ei] at q; exact q.elim
      | some ns =>
        cases ns with
        | nil => simp only [gMinT, ei] at q; exact q.elim
        | cons x xs =>
          simp only [gMinT, ei] at q
          obtain ⟨a, e1, h2⟩ := tints_rep sub h1 ei
          subst e1
          refine ⟨a, x :: xs, rfl, h2, by simp, fun m hm hle => ?_⟩
          have e : m = minL x xs := by
            obtain ⟨k1, k2⟩ := minL_le xs x
            have k3 := hle _ (minL_mem xs x)
            rcases List.mem_cons.mp hm with h | h
            · subst h; omega
            · have := k2 m h; omega
          rw [e]
          exact postE_fz sub q rfl
theorem pc_maxT : PureC K (rMaxT K) gMaxT := fun c s Hf H vs os Q sub h q => by
  cases os with
  | nil => exact q.elim
  | cons o os =>
    cases os with
    | cons _ _ => exact q.elim
    | nil =>
      obtain ⟨v, e, h1⟩ := rep1 h
      subst e
      cases ei : (tupD o).bind intsD with
      | none => simp only [gMaxT, ei] at q; exact q.elim
      | some ns =>
        cases ns with
        | nil => simp only [gMaxT, ei] at q; exact q.elim
        | cons x xs =>
          simp only [gMaxT, ei] at q
          obtain ⟨a, e1, h2⟩ := tints_rep sub h1 ei
          subst e1
          refine ⟨a, x :: xs, rfl, h2, by simp, fun m hm hle => ?_⟩
          have e : m = maxL x xs := by
            obtain ⟨k1, k2⟩ := maxL_ge xs x
            have k3 := hle _ (maxL_mem xs x)
            rcases List.mem_cons.mp hm with h | h
            · subst h; omega
            · have := k2 m h; omega
          rw [e]
          exact postE_fz sub q rfl
def eSlT (f : FE) (l h : FP) : FE := fun r => (f r).bind fun x => (l r).bind fun lo => (h r).bind fun hi => match tupD x.a with
  | some ds => if HT.sIx ds.length 0 lo = 0 ∧ HT.sIx ds.length ds.length hi = ds.length then .bad else .ok (.nw (.fz (.tup (cutL ds lo hi))))
  | none => .bad
theorem Reps.drop : ∀ {ds : List D} {vs : List V} (n : Nat), Reps K H ds vs → Reps K H (ds.drop n) (vs.drop n)
  | [], _, n, h => by have h' : _ = _ := h; subst h'; cases n <;> rfl
  | d :: ds, _, 0, h => h
  | d :: ds, _, n + 1, h => by
    obtain ⟨v, r, e, h1, h2⟩ := h
    subst e
    exact Reps.drop n h2
theorem Reps.take : ∀ {ds : List D} {vs : List V} (n : Nat), Reps K H ds vs → Reps K H (ds.take n) (vs.take n)
  | [], _, n, h => by have h' : _ = _ := h; subst h'; cases n <;> rfl
  | d :: ds, _, 0, h => rfl
  | d :: ds, _, n + 1, h => by
    obtain ⟨v, r, e, h1, h2⟩ := h
    subst e
    exact ⟨v, _, rfl, h1, Reps.take n h2⟩
theorem Reps.cut {ds : List D} {vs : List V} (h : Reps K H ds vs) (lo hi : Option Int) : Reps K H (cutL ds lo hi) (cutV vs lo hi) := by
  unfold cutL cutV
  rw [Reps.length h]
  exact (h.drop _).take _
theorem de_slT {lo hi : Option Expr} {fl fh : FP} {p2 : Pos} (h : DE c X a f) (hl : DP c X lo fl) (hh : DP c X hi fh) : DE c X (.Subscript a (.Slice lo hi none p2) pos) (eSlT f fl fh) := by
  obtain ⟨t, p, s⟩ := h.ex
  obtain ⟨tl, pl, sl⟩ := hl.ex
  obtain ⟨th, ph, sh⟩ := hh.ex
  refine ⟨_, pe_slice sl_tup p pl ph, fun r s' Hf H L sr Q q => ?_⟩
  refine s.run sr pstE q fun x v Hf1 H1 x1 sr1 a1 q1 => ?_
  refine sl.run sr1 pstE q1 fun l Hf2 H2 x2 sr2 q2 => ?_
  refine sh.run sr2 pstE q2 fun u Hf3 H3 x3 sr3 q3 => ?_
  have a3 := (a1.mono (x2.trans x3).fsame (x2.trans x3).same).a sr3.same0
  cases ei : tupD x.a with
  | none => simp only [ei] at q3; exact q3.elim
  | some ds =>
    simp only [ei] at q3
    obtain ⟨p', vs, e1, h1, h2⟩ := tupD_rep a3 ei
    by_cases hc : HT.sIx ds.length 0 l = 0 ∧ HT.sIx ds.length ds.length u = ds.length
    · rw [if_pos hc] at q3; exact q3.elim
    · rw [if_neg hc] at q3
      exact ⟨p', vs, e1, .of (sr3.sub _ _ h1), by rw [Reps.length h2]; exact hc, fun pp hp => postE_tup sr3.sub q3 (h2.cut _ _) hp⟩
structure InsF (K : PySem.W.Frag) (C : Addr) : Prop where
  f1 : PySem.W.findIn K (.ref C) "__class__" = some (some (.builtin "object.__class__"))
  f2 : PySem.W.specialIn K (.builtin "object.__class__") "__get__" = some (some (.builtin "getset_descriptor.__get__"))
  f3 : PySem.W.takesIn K (.builtin "object.__class__") = some true
  f4 : PySem.W.mroIn K C (.type "object") = some true
structure IsOT (K : PySem.W.Frag) (x : Str) (tab : List (Str × Bool)) : Prop where
  at_ : ∀ n b, tab.lookup n = some b → Cls K (He.ga K n) ∧ InsF K (He.ga K n) ∧ PySem.W.kitOne K (.ref (He.ga K n)) (.ref (He.ga K x)) = some b
open Classical in
noncomputable def mI (f : Addr → Res O) : Res O := if h : ∃ x, ∀ a, f a = x then h.choose else .bad
theorem mI_imp {f : Addr → Res O} (a : Addr) : mI f = .bad ∨ mI f = f a := by
  unfold mI
  split
  · rename_i h; exact .inr (h.choose_spec a).symm
  · exact .inl rfl
theorem mI_of {f : Addr → Res O} {x : Res O} (h : ∀ a, f a = x) : mI f = x := by
  unfold mI
  rw [dif_pos ⟨x, h⟩]
  have hx : ∃ x, ∀ a, f a = x := ⟨x, h⟩
  exact (hx.choose_spec 0).symm.trans (h 0)
end DL
namespace DL
open PySem L2
variable {c : Cn} {X : Cx} {a b e : Expr} {es : List Expr} {f g fa fb : FE} {pos : Pos} {fs : Env → Res (List O)} {K : PySem.W.Frag} {H0 H H' Hf Hf' : Hp} {F G : FS} {st : Stmt} {sts : List Stmt} {ft : Env → Res Bool}
def Stay (t : TS) : Prop := ∀ D σ H, t ⟨fun σ' H' => σ' = σ → D.nx σ' H', D.rt, D.bk, D.ct⟩ σ H → t D σ H
structure DSt (c : Cn) (X : Cx) (st : Stmt) (f : FS) : Prop where
  ex : ∃ t, PS X st t ∧ SoS c X.K t f ∧ Stay t
theorem set_self {α : Type} {l : List α} {i : Nat} {x : α} (h : l[i]? = some x) : l.set i x = l := by
  obtain ⟨hl, hg⟩ := List.getElem?_eq_some_iff.mp h
  rw [← hg]; exact List.set_getElem_self hl
theorem RepVs.erase : ∀ {os : List O} {vs : List V} (n : Nat), RepVs K Hf H os vs → RepVs K Hf H (os.eraseIdx n) (vs.eraseIdx n)
  | [], _, n, h => by have h' : _ = _ := h; subst h'; rfl
  | o :: os, _, 0, h => by
    obtain ⟨v, r, e, h1, h2⟩ := h
    subst e
    exact h2
  | o :: os, _, n + 1, h => by
    obtain ⟨v, r, e, h1, h2⟩ := h
    subst e
    exact ⟨v, _, rfl, h1, RepVs.erase n h2⟩
def rmL (H : Hp) (L : List Addr) : Hp := fun b => if b ∈ L then none else H b
theorem rmL_in {L : List Addr} {b : Addr} (h : b ∈ L) : rmL H L b = none := if_pos h
theorem rmL_out {L : List Addr} {b : Addr} (h : b ∉ L) : rmL H L b = H b := if_neg h
theorem rmL_some {L : List Addr} {b : Addr} {o : HO} (h : rmL H L b = some o) : H b = some o ∧ b ∉ L := by
  by_cases hb : b ∈ L
  · rw [rmL_in hb] at h; cases h
  · exact ⟨by rw [← rmL_out (H := H) hb]; exact h, hb⟩
def startM (n j : Nat) (a : Addr) (os : List O) : Env := (startE n (os.set j (.fz .non))).set j (.me a (os.getD j (.fz .non)))
def runM (n j : Nat) (F : FS) (a : Addr) (os : List O) : Res (O × O) := match F (startM n j a os) with
  | .ret (.gh o b m) => if b = a then .ok (o, m) else .bad
  | _ => .bad
def spM (K : PySem.W.Frag) (n j : Nat) (F : List O → Res (O × O)) : Sp := fun vs H Q _ => ∃ (Hf : Hp) (a : Addr) (o : O) (L : List Addr) (os : List O), vs[j]? = some (.ref a) ∧ os[j]? = some o ∧ os.length = n ∧ vs.length = n ∧ Same Hf H ∧ Rows (tK K) Hf H ∧ RepO K Hf H o (.ref a) L ∧ L.Nodup ∧
  (∀ b ∈ L, Hf b = none ∧ H b ≠ none) ∧ RepVs K Hf (rmL H L) (os.set j (.fz .non)) (vs.set j .non) ∧ match F os with
  | .ok p => ∀ v Hf' H' L1 L2, Ext Hf (rmL H L) Hf' H' → RepO K Hf' H' p.1 v L1 → RepO K Hf' H' p.2 (.ref a) L2 → Nw (rmL H L) Hf' H' (L1 ++ L2) → Q v H'
  | _ => False
structure DefA (P : Program) (w : World) (K : PySem.W.Frag) (mg : Str → Option Value) (base : Heap) (x : Str) (k n j : Nat) (F : List O → Res (O × O)) : Prop where
  ex : ∃ f fd ps, FnOk P w K mg base (L2.CX P w) k f fd ps (spM K n j F) ∧ mg x = some (.ref f) ∧ PySem.W.keepIn K (.ref f) = true ∧ Binds K fd ps [] ∧ ps.length = n
section
variable {P : Program} {w : World} {mg : Str → Option Value} {base : Heap} {x qual : Str} {params : Arguments} {body : List Stmt} {scope : Scope} {fA : Addr} {fd : FuncData} {N ps : List Str} {k n j : Nat}
theorem fnA (Fn : FunD K x qual params body scope [] [] fA fd) (S : FnScope N ps scope) (hn : ps.length = n) (hj : j < n) (F : FS) (M : List O → Res (O × O))
    (hbody : ∀ (cdv : Value) (A : Around) (outer : List PySem.Env) (s : Shared) (H H0 : Hp) (E : XK) (Hf : Hp), Bk ⟨Hf, H0, fun cls d _ H' => E cls d H'⟩ (cxOf (L2.CX P w) P w K mg base N qual scope fA cdv A outer s H E) k →
      DSs ⟨Hf, H0, fun cls d _ H' => E cls d H'⟩ (cxOf (L2.CX P w) P w K mg base N qual scope fA cdv A outer s H E) body F)
    (himp : ∀ a os, os.length = n → M os = .bad ∨ M os = runM N.length j F a os) : FnOk P w K mg base (L2.CX P w) (k + 1) fA fd ps (spM K n j M) := by
  subst hn
  refine Fn.ok S (fun vs H Q E h => ?_) (fun cdv A outer s H vs Q E hr h => ?_)
  · obtain ⟨Hf, a, o, L, os, _, _, _, h1, _⟩ := h
    exact h1
  · obtain ⟨Hf, a, o, L, os, va, oa, ol, vl, sub, hro, hrep, hnd, hfr, hvs, h4⟩ := h
    have B : Bk ⟨Hf, rmL H L, fun cls d _ H' => E cls d H'⟩ (cxOf (L2.CX P w) P w K mg base N qual scope fA cdv A outer s H E) k := ⟨hr, takes_of rfl rfl rfl rfl, passes_of rfl, rfl⟩
    obtain ⟨t, p, so⟩ := (hbody cdv A outer s H (rmL H L) E Hf B).ex
    refine ⟨t, p, ?_⟩
    have ext0 : Ext Hf (rmL H L) Hf H := ⟨Same.sm fun b u e => (rmL_some e).1, Same.refl _, sub, fun _ _ h => h, fun h => h.up fun k vs e => (rmL_some e).1⟩
    have env0 : EnvR K Hf (rmL H L) H (startE N.length (os.set j (.fz .non))) ((vs.set j .non).map some ++ List.replicate (N.length - (os.set j (.fz .non)).length) none) [] := env_start hvs
    have ej : (startE N.length (os.set j (.fz .non)))[j]? = some (.vl false (.fz .non)) := by
      unfold startE
      rw [List.getElem?_append_left (by simp; omega)]
      simp [ol, hj]
    obtain ⟨y, A1, M1, B1, k1, k2, _, k4⟩ := env0.at ej
    have hAB : A1 = [] ∧ M1 = [] ∧ B1 = [] := by
      have := congrArg List.length k2
      simp only [List.length_nil, List.length_append] at this
      exact ⟨List.length_eq_zero_iff.mp (by omega), List.length_eq_zero_iff.mp (by omega), List.length_eq_zero_iff.mp (by omega)⟩
    obtain ⟨rfl, rfl, rfl⟩ := hAB
    have env1 := k4 Hf H (.me a o) (some (.ref a)) L (Same.refl _) Tst.rf (fun _ _ _ q => q) ⟨rfl, hrep⟩
    have est : ((vs.set j .non).map some ++ List.replicate (N.length - (os.set j (.fz .non)).length) none).set j (some (.ref a)) = L2.start N vs := by
      unfold L2.start
      rw [List.set_append_left _ _ (by simp; omega), List.length_set, ol, vl]
      congr 1
      rw [← List.map_set, List.set_set, set_self va]
    rw [est] at env1
    have eo : os.getD j (.fz .non) = o := by rw [List.getD_eq_getElem?_getD, oa]; rfl
    have sr : SR K Hf (rmL H L) (startM N.length j a os) (L2.start N vs) Hf H L := by
      refine ⟨ext0, ?_, hnd, fun b hb => ⟨(hfr b hb).1, rmL_in hb⟩, fun b hb => (hfr b hb).2, hro⟩
      unfold startM
      rw [eo]
      simpa using env1
    refine so _ _ Hf H L sr _ ?_
    rcases himp a os ol with z | z
    · rw [z] at h4; exact h4.elim
    · rw [z] at h4
      unfold runM at h4
      cases e : F (startM N.length j a os) with
      | ret q =>
        rw [e] at h4
        cases q with
        | gh o' b m =>
          dsimp only at h4
          by_cases hab : b = a
          · rw [if_pos hab] at h4
            subst hab
            intro v Hf' H' Lr _ x q' nw
            obtain ⟨L1, L2, g1, g2, g3⟩ := q'
            subst g3
            exact h4 v Hf' H' L1 L2 x g1 g2 nw
          · rw [if_neg hab] at h4; exact h4.elim
        | _ => exact h4.elim
      | nx r => rw [e] at h4; exact h4.elim
      | bk r => rw [e] at h4; exact h4.elim
      | ct r => rw [e] at h4; exact h4.elim
      | exc e' r => rw [e] at h4; exact h4.elim
      | bad => rw [e] at h4; exact h4.elim
theorem DefA.ofD (Fn : FunD K x qual params body scope [] [] fA fd) (S : FnScope N ps scope) (hm : mg x = some (.ref fA)) (hb : Binds K fd ps []) (hn : ps.length = n) (hj : j < n) (F : FS) (M : List O → Res (O × O))
    (hbody : ∀ (cdv : Value) (A : Around) (outer : List PySem.Env) (s : Shared) (H H0 : Hp) (E : XK) (Hf : Hp), Bk ⟨Hf, H0, fun cls d _ H' => E cls d H'⟩ (cxOf (L2.CX P w) P w K mg base N qual scope fA cdv A outer s H E) k →
      DSs ⟨Hf, H0, fun cls d _ H' => E cls d H'⟩ (cxOf (L2.CX P w) P w K mg base N qual scope fA cdv A outer s H E) body F)
    (himp : ∀ a os, os.length = n → M os = .bad ∨ M os = runM N.length j F a os) : DefA P w K mg base x (k + 1) n j M :=
  ⟨fA, fd, ps, fnA Fn S hn hj F M hbody himp, hm, Fn.kp, hb, hn⟩
structure DefMM (P : Program) (w : World) (K : PySem.W.Frag) (mg : Str → Option Value) (base : Heap) (cn m : Str) (k n : Nat) (F : List O → Res (O × O)) : Prop where
  ex : ∃ f fd ps, FnOk P w K mg base (L2.CX P w) k f fd ps (spM K n 0 F) ∧ Cls K (He.ga K cn) ∧ Meth K (He.ga K cn) m f ∧ Binds K fd ps [] ∧ ps.length = n
theorem DefMM.ofD (Fn : FunD K x qual params body scope [] [] fA fd) (S : FnScope N ps scope) {cn m : Str} (cl : Cls K (He.ga K cn)) (hm : Meth K (He.ga K cn) m fA) (hb : Binds K fd ps []) (hn : ps.length = n) (hj : 0 < n) (F : FS) (M : List O → Res (O × O))
    (hbody : ∀ (cdv : Value) (A : Around) (outer : List PySem.Env) (s : Shared) (H H0 : Hp) (E : XK) (Hf : Hp), Bk ⟨Hf, H0, fun cls d _ H' => E cls d H'⟩ (cxOf (L2.CX P w) P w K mg base N qual scope fA cdv A outer s H E) k →
      DSs ⟨Hf, H0, fun cls d _ H' => E cls d H'⟩ (cxOf (L2.CX P w) P w K mg base N qual scope fA cdv A outer s H E) body F)
    (himp : ∀ a os, os.length = n → M os = .bad ∨ M os = runM N.length 0 F a os) : DefMM P w K mg base cn m (k + 1) n M :=
  ⟨fA, fd, ps, fnA Fn S hn hj F M hbody himp, cl, hm, hb, hn⟩
end
def SoAm (c : Cn) (K : PySem.W.Frag) (t : TA) (fs : Env → Res (List O)) (j i : Nat) : Prop := ∀ r s Hf H L, c.SR K r s Hf H L → ∀ Q : List V → Hp → Prop, (match fs r with
  | .ok os => ∀ vs Hf' H', Ext Hf H Hf' H' → RepVs K Hf' H' os vs → (∃ v, s[i]? = some (some v) ∧ vs[j]? = some v) → Q vs H'
  | _ => False) → t s H Q
structure DAm (c : Cn) (X : Cx) (es : List Expr) (fs : Env → Res (List O)) (j i : Nat) : Prop where
  ex : ∃ t, PA X es t ∧ SoAm c X.K t fs j i
end DL
namespace L2
open PySem PySem.Spec PyProof.Rows
section
variable {M : Model} {A : Around} {E : Value → Shared → Prop} {s : Shared} {Z : Obj → Prop} {G : Heap} {env : Env} {outer : List Env} {L a : Addr}
end
section
variable {X : Cx} {W : WX} {pins : List (Addr × Obj)} {σ : St} {H3 : Hp} {s3 : Shared} {scope : Scope} {ce : Env} {fp : List Addr}
end
end L2
namespace DL
open PySem L2
variable {c : Cn} {X : Cx} {a b e : Expr} {es : List Expr} {f g fa fb : FE} {pos : Pos} {fs : Env → Res (List O)} {K : PySem.W.Frag} {H0 H H' Hf Hf' : Hp} {F G : FS} {st : Stmt} {sts : List Stmt} {ft : Env → Res Bool}
section
variable {k : Nat} {elt tg iter : Expr} {scope : Scope} {own : List (Str × Nat)} {fi : Env → Res (List R)} {fg : FG}
end
end DL
namespace DL
open PySem L2
variable {c : Cn} {X : Cx} {a b e : Expr} {es : List Expr} {f g fa fb : FE} {pos : Pos} {fs : Env → Res (List O)} {K : PySem.W.Frag} {H0 H H' Hf Hf' : Hp} {F G : FS} {st : Stmt} {sts : List Stmt} {ft : Env → Res Bool}
def atP : List Nat → O → Option O
  | [], o => some o
  | j :: p, .ls os => (os[j]?).bind (atP p)
  | j :: p, .tp os => (os[j]?).bind (atP p)
  | _ :: _, _ => none
def setP (x : O) : List Nat → O → O
  | [], _ => x
  | j :: p, .ls os => (match os[j]? with | some o => .ls (os.set j (setP x p o)) | none => .ls os)
  | j :: p, .tp os => (match os[j]? with | some o => .tp (os.set j (setP x p o)) | none => .tp os)
  | _ :: _, o => o
def PathA (H : Hp) : List Nat → V → V → Prop
  | [], v, w => v = w
  | j :: p, v, w => ∃ a vs u, v = .ref a ∧ (H a = some (.lst vs) ∨ H a = some (.tup vs)) ∧ vs[j]? = some u ∧ PathA H p u w
theorem PathA.mono (s : Sm H H') : ∀ {p : List Nat} {v w : V}, PathA H p v w → PathA H' p v w
  | [], _, _, h => h
  | j :: p, _, _, ⟨a, vs, u, e1, h1, h2, h3⟩ => ⟨a, vs, u, e1, h1.imp (fun z => s.lst z) (fun z => s.tup z), h2, PathA.mono s h3⟩
theorem PathA.fn : ∀ {p : List Nat} {v w w' : V}, PathA H p v w → PathA H p v w' → w = w'
  | [], _, _, _, h, h' => h.symm.trans h'
  | j :: p, _, _, _, ⟨a, vs, u, e1, h1, h2, h3⟩, ⟨a', vs', u', e1', h1', h2', h3'⟩ => by
    subst e1
    cases e1'
    have ev : vs = vs' := by
      rcases h1 with h1 | h1 <;> rcases h1' with h1' | h1' <;> rw [h1] at h1' <;> cases h1' <;> rfl
    subst ev
    rw [h2] at h2'
    cases h2'
    exact PathA.fn h3 h3'
theorem RepO.path : ∀ (p : List Nat) (o : O) (v : V) (L : List Addr) (o1 : O), RepO K Hf H o v L → atP p o = some o1 → ∃ v1 A M B, L = A ++ M ++ B ∧ PathA H p v v1 ∧ RepO K Hf H o1 v1 M ∧
    ∀ (Hf' H' : Hp) (x : O) (M' : List Addr), Same Hf Hf' → (∀ a ∈ A ++ B, ∀ u, H a = some u → H' a = some u) → RepO K Hf' H' x v1 M' → RepO K Hf' H' (setP x p o) v (A ++ M' ++ B)
  | [], o, v, L, o1, h, e => by
    cases e
    exact ⟨v, [], L, [], by simp, rfl, h, fun Hf' H' x M' _ _ q => by simpa [setP] using q⟩
  | j :: p, .ls os, v, L, o1, h, e => by
    obtain ⟨a, vs, M0, e1, h1, h2, e2⟩ := h
    subst e1 e2
    simp only [atP] at e
    cases ej : os[j]? with
    | none => rw [ej] at e; cases e
    | some o2 =>
      rw [ej] at e
      obtain ⟨v2, L1, N, L2, g1, g2, g3, g4⟩ := RepOs.at h2 ej
      subst g2
      obtain ⟨v1, A, M, B, e3, e4, e5, e6⟩ := RepO.path p o2 v2 N o1 g3 e
      subst e3
      refine ⟨v1, a :: (L1 ++ A), M, B ++ L2, by simp [List.append_assoc], ⟨a, vs, v2, rfl, .inl h1, g1, e4⟩, e5, fun Hf' H' x M' f k q => ?_⟩
      simp only [setP, ej]
      refine ⟨a, vs, L1 ++ (A ++ M' ++ B) ++ L2, rfl, k a (by simp) _ h1, ?_, by simp [List.append_assoc]⟩
      exact g4 Hf' H' _ _ f (fun b hb => k b (by simp only [List.mem_append, List.mem_cons] at hb ⊢; rcases hb with hb | hb <;> simp [hb])) (e6 Hf' H' x M' f (fun b hb => k b (by simp only [List.mem_append, List.mem_cons] at hb ⊢; rcases hb with hb | hb <;> simp [hb])) q)
  | j :: p, .tp os, v, L, o1, h, e => by
    obtain ⟨a, vs, M0, e1, h1, h2, e2⟩ := h
    subst e1 e2
    simp only [atP] at e
    cases ej : os[j]? with
    | none => rw [ej] at e; cases e
    | some o2 =>
      rw [ej] at e
      obtain ⟨v2, L1, N, L2, g1, g2, g3, g4⟩ := RepOs.at h2 ej
      subst g2
      obtain ⟨v1, A, M, B, e3, e4, e5, e6⟩ := RepO.path p o2 v2 N o1 g3 e
      subst e3
      refine ⟨v1, a :: (L1 ++ A), M, B ++ L2, by simp [List.append_assoc], ⟨a, vs, v2, rfl, .inr h1, g1, e4⟩, e5, fun Hf' H' x M' f k q => ?_⟩
      simp only [setP, ej]
      refine ⟨a, vs, L1 ++ (A ++ M' ++ B) ++ L2, rfl, k a (by simp) _ h1, ?_, by simp [List.append_assoc]⟩
      exact g4 Hf' H' _ _ f (fun b hb => k b (by simp only [List.mem_append, List.mem_cons] at hb ⊢; rcases hb with hb | hb <;> simp [hb])) (e6 Hf' H' x M' f (fun b hb => k b (by simp only [List.mem_append, List.mem_cons] at hb ⊢; rcases hb with hb | hb <;> simp [hb])) q)
  | _ :: _, .fz _, _, _, _, _, e => by cases e
  | _ :: _, .ob _ _ _, _, _, _, _, e => by cases e
  | _ :: _, .dt _ _, _, _, _, _, e => by cases e
  | _ :: _, .dk _ _, _, _, _, _, e => by cases e
  | _ :: _, .gh _ _ _, _, _, _, _, e => by cases e
theorem SR.putP {r : Env} {s : St} {L : List Addr} {i : Nat} {p : List Nat} {o o1 : O} (sr : c.SR K r s Hf H L) (e : r[i]? = some (.vl true o)) (ep : atP p o = some o1) :
    ∃ v v1 M, s[i]? = some (some v) ∧ PathA H p v v1 ∧ RepO K Hf H o1 v1 M ∧ ((∀ b ∈ M, b ∈ L) ∧ M.Nodup) ∧
      ∀ (q : Addr) (u u' : HO) (x : O) (M' : List Addr), q ∈ M → H q = some u → (∀ φ : Hk, u ≠ φ.o) → (∀ xs, u ≠ .tup xs) → RepO K Hf (upd H q u') x v1 M' → M'.Nodup → (∀ b ∈ M', b ∈ M) → ∃ L', c.SR K (r.set i (.vl true (setP x p o))) s Hf (upd H q u') L' := by
  obtain ⟨y, A, M0, B, h1, h2, h3, h4⟩ := sr.put e
  cases y with
  | none => exact h3.elim
  | some v =>
    obtain ⟨v1, A1, M, B1, e3, e4, e5, e6⟩ := RepO.path p o v M0 o1 h3 ep
    subst e3
    refine ⟨v, v1, M, h1, e4, e5, ⟨fun b hb => by rw [h2]; simp [hb], ?_⟩, fun q u u' x M' hq hu hn ht hr hnd hM => ?_⟩
    · have nd := sr.nd
      rw [h2] at nd
      simp only [List.nodup_append, List.mem_append] at nd
      exact nd.1.2.1.1.2.1
    have nd := sr.nd
    rw [h2] at nd
    have nd0 : (A1 ++ M ++ B1).Nodup := by
      simp only [List.nodup_append, List.mem_append] at nd ⊢
      exact nd.1.2.1
    have n2 := nd0
    simp only [List.nodup_append, List.mem_append] at n2
    obtain ⟨⟨n21, n22, d21⟩, n23, d22⟩ := n2
    have out : ∀ b ∈ A1 ++ B1, b ≠ q := fun b hb z => by
      subst z
      rcases List.mem_append.mp hb with hb | hb
      · exact d21 b hb b hq rfl
      · exact d22 b (.inr hq) b hb rfl
    have hx := e6 Hf (upd H q u') x M' (Same.refl _) (fun b hb w z => by rw [upd_ne (out b hb)]; exact z) hr
    refine ⟨_, h4 q u u' (.vl true (setP x p o)) (A1 ++ M' ++ B1) (by simp [hq]) hu hn ht hx ?_ fun b hb => .inl ?_⟩
    · simp only [List.nodup_append, List.mem_append]
      exact ⟨⟨n21, hnd, fun x hx y hy => d21 x hx y (hM y hy)⟩, n23, fun x hx y hy => d22 x (hx.imp id (hM x)) y hy⟩
    · simp only [List.mem_append] at hb ⊢
      rcases hb with (hb | hb) | hb
      · exact .inl (.inl hb)
      · exact .inl (.inr (hM b hb))
      · exact .inr hb
def PostPa (c : Cn) (K : PySem.W.Frag) (i : Nat) (r : Env) (s : St) (Hf H : Hp) (L : List Addr) (Q : V → Hp → Prop) : Res (List Nat) → Prop
  | .ok p => ∀ Hf1 H1 v w o, Ext Hf H Hf1 H1 → c.SR K r s Hf1 H1 L → s[i]? = some (some v) → r[i]? = some (.vl true o) → (∃ o1, atP p o = some o1) → PathA H1 p v w → Q w H1
  | .exc e => PostX c K s Hf H e
  | .bad => False
def SoPa (c : Cn) (K : PySem.W.Frag) (t : TE) (i : Nat) (fp : Env → Res (List Nat)) : Prop := ∀ r s Hf H L, c.SR K r s Hf H L → ∀ Q, PostPa c K i r s Hf H L Q (fp r) → t s H Q
structure DPa (c : Cn) (X : Cx) (e : Expr) (i : Nat) (fp : Env → Res (List Nat)) : Prop where
  ex : ∃ t, PE X e t ∧ SoPa c X.K t i fp
def onP (i : Nat) (fp : Env → Res (List Nat)) (k : List Nat → O → O → FS) : FS := fun r => match fp r with
  | .ok p => (match r[i]? with
    | some (.vl true o) => (match atP p o with
      | some o1 => k p o o1 r
      | none => .bad)
    | _ => .bad)
  | .exc e => .exc e r
  | .bad => .bad
theorem SoPa.use {t : TE} {i : Nat} {fp : Env → Res (List Nat)} (h : SoPa c K t i fp) {r : Env} {s : St} {L : List Addr} {k : List Nat → O → O → FS} {D : Ends} (sr : c.SR K r s Hf H L) (q : PostS c K Hf D (onP i fp k r)) {Q : VK}
    (hq : ∀ p o o1 Hf1 H1 v w, Ext Hf H Hf1 H1 → c.SR K r s Hf1 H1 L → s[i]? = some (some v) → r[i]? = some (.vl true o) → atP p o = some o1 → PathA H1 p v w → PostS c K Hf1 D (k p o o1 r) → Q w H1) : t s H Q := by
  refine h r s Hf H L sr _ ?_
  unfold onP at q
  cases e1 : fp r with
  | bad => rw [e1] at q; exact q.elim
  | exc e' => rw [e1] at q; exact fun cls d Hf' H' x er => q s cls d Hf' H' L x.fsame (sr.mono x) er
  | ok p =>
    rw [e1] at q
    intro Hf1 H1 v w o x1 sr1 hv ho ⟨o1, ho1⟩ hw
    simp only [ho, ho1] at q
    exact hq p o o1 Hf1 H1 v w x1 sr1 hv ho ho1 hw (q.mono x1.fsame)
end DL
namespace DL
open PySem L2
variable {c : Cn} {X : Cx} {a b e : Expr} {es : List Expr} {f g fa fb : FE} {pos : Pos} {fs : Env → Res (List O)} {K : PySem.W.Frag} {H0 H H' Hf Hf' : Hp} {F G : FS} {st : Stmt} {sts : List Stmt} {ft : Env → Res Bool}
theorem EnvR.h0 {H0' : Hp} (z : Sm H0 H0') : ∀ {r : Env} {s : St} {L : List Addr}, EnvR K Hf H0 H r s L → EnvR K Hf H0' H r s L
  | [], _, _, h => h
  | x :: r, _, _, h => by
    obtain ⟨y, t, L1, L2, e1, e2, h1, h2⟩ := h
    refine ⟨y, t, L1, L2, e1, e2, ?_, EnvR.h0 z h2⟩
    cases x with
    | un => exact h1
    | me a o =>
      cases y with
      | none => exact h1
      | some v => exact h1
    | tq k =>
      cases y with
      | none => exact h1
      | some v => exact h1
    | fa k =>
      cases y with
      | none => exact h1
      | some v => exact h1
    | lt a o =>
      cases y with
      | none => exact h1
      | some v => exact ⟨h1.1, h1.2.1, RepV.mono (Same.refl _) z o v h1.2.2⟩
    | vl w o =>
      cases y with
      | none => cases w <;> exact h1
      | some v =>
        cases w with
        | true => exact h1
        | false => exact ⟨RepV.mono (Same.refl _) z o v h1.1, h1.2⟩
end DL
namespace DL
open PySem L2
variable {K : PySem.W.Frag}
section
variable {P : Program} {w : World} {mg : Str → Option Value} {base : Heap}
end
end DL
namespace DL
open PySem L2
section
variable {c : Cn} {X : Cx} {e : Expr} {es : List Expr} {pos : Pos} {fs : Env → Res (List O)} {K : PySem.W.Frag} {H0 H H' Hf Hf' : Hp}
def spC (K : PySem.W.Frag) (HfE : Hp) (n : Nat) (G : List O → Res O) : Sp := fun vs H Q E => ∃ Hf os, Same HfE Hf ∧ Same Hf H ∧ Rows (tK K) Hf H ∧ RepVs K Hf H os vs ∧ os.length = n ∧ match G os with
  | .ok o => ∀ v Hf' H' L, Ext Hf H Hf' H' → RepO K Hf' H' o v L → Nw H Hf' H' L → Q v H'
  | .exc e => ∀ cls d Hf' H', Ext Hf H Hf' H' → EcR K e cls d Hf' → E cls d H'
  | .bad => False
structure CloF (P : Program) (w : World) (K : PySem.W.Frag) (mg : Str → Option Value) (base : Heap) (HfE : Hp) (k : Nat) (f : Addr) (F : NdefX.NF) (n : Nat) (G : List O → Res O) : Prop where
  run : ∀ (A : Around) (outer : List PySem.Env) (s : Shared) (H : Hp) (us : List Value) (vs : List V) (Q : VK) (E : XK), Room k A → Env0 P w K mg base A outer s H → H f = some (NdefX.FnO f F) → H F.c = some (LamX.CodeO F.c F.qual) → Vals vs us →
    spC K HfE n G vs H Q E → codeAny (model P w) A (.call (.ref f) ⟨us, []⟩) (L2.CR (L2.CX P w) outer P w H s Q E) s
theorem obj_heap (o : Obj) (hd : o.data ≠ .freed) (a b : Addr) : ∃ h : Heap, h.get? a = some o ∧ h.get? b = some o := by
  refine ⟨⟨Array.replicate (Nat.succ (Nat.add a b)) o, {}⟩, ?_, ?_⟩ <;>
  · unfold Heap.get?
    simp only [Array.getElem?_replicate]
    rw [if_pos (Nat.lt_succ_of_le (by first | exact Nat.le_add_right _ _ | exact Nat.le_add_left _ _))]
    obtain ⟨c, d, dt, sl⟩ := o
    cases dt <;> first | rfl | exact absurd rfl hd
theorem kn_fn {k f : Addr} {vs : List V} {F : NdefX.NF} (e : Kn k vs = NdefX.FnO f F) : False := by
  have e1 := HO.ext.inj e
  obtain ⟨h, h1, h2⟩ := obj_heap (⟨.type "function", none, .func (F.fd .none .none .none), #[]⟩ : Obj) (fun z => nomatch z) f k
  have z := congrFun e1 h
  have z2 : vs.length ≤ sizeLine ∧ ∃ (its : List Value) (n : Nat), Vals vs its ∧ h.get? k = some { cls := .type "list", data := .seq its.toArray n } := by
    rw [z]
    exact ⟨none, #[], .none, .none, .none, h1⟩
  obtain ⟨_, its, n, _, z3⟩ := z2
  rw [h2] at z3
  have := congrArg Obj.data (Option.some.inj z3)
  cases this
theorem fn_nk {f : Addr} {F : NdefX.NF} : ¬ isKn (NdefX.FnO f F) := fun z => by
  rcases z with ⟨k, vs, e⟩ | ⟨ps, e⟩
  · exact kn_fn e.symm
  · cases e
theorem code_nk {a : Addr} {q : Str} : ¬ isKn (LamX.CodeO a q) := fun z => by
  rcases z with ⟨k, vs, e⟩ | ⟨ps, e⟩
  · exact kn_code e.symm
  · cases e
theorem Sm.fn {f : Addr} {F : NdefX.NF} (s : Sm H H') (h : H f = some (NdefX.FnO f F)) : H' f = some (NdefX.FnO f F) := (s f _ h).elim id fun z => absurd z.1 fn_nk
theorem Sm.code {a : Addr} {q : Str} (s : Sm H H') (h : H a = some (LamX.CodeO a q)) : H' a = some (LamX.CodeO a q) := (s a _ h).elim id fun z => absurd z.1 code_nk
end
def spG (K : PySem.W.Frag) (HfE : Hp) (f : Addr) (F : NdefX.NF) (n : Nat) (M : List O → Res O) : Sp := fun vs H Q E => ∃ Hf os ws, vs = ws ++ [.ref f] ∧ Same HfE Hf ∧ Same Hf H ∧ Rows (tK K) Hf H ∧ RepVs K Hf H os ws ∧ os.length = n ∧ H f = some (NdefX.FnO f F) ∧ H F.c = some (LamX.CodeO F.c F.qual) ∧ match M os with
  | .ok o => ∀ v Hf' H' L, Ext Hf H Hf' H' → RepO K Hf' H' o v L → Nw H Hf' H' L → Q v H'
  | .exc e => ∀ cls d Hf' H', Ext Hf H Hf' H' → EcR K e cls d Hf' → E cls d H'
  | .bad => False
section
variable {P : Program} {w : World} {K : PySem.W.Frag} {mg : Str → Option Value} {base : Heap} {x qual : Str} {params : Arguments} {body : List Stmt} {scope : Scope} {fA : Addr} {fd : FuncData} {N ps : List Str} {k n : Nat}
structure DefG (P : Program) (w : World) (K : PySem.W.Frag) (mg : Str → Option Value) (x : Str) (k jc n nc : Nat) (M : (List O → Res O) → List O → Res O) : Prop where
  ex : ∃ f fd ps, mg x = some (.ref f) ∧ PySem.W.keepIn K (.ref f) = true ∧ Binds K fd ps [] ∧ ps.length = n + 1 ∧
    ∀ (base : Heap) (HfE : Hp) (g : Addr) (F0 : NdefX.NF) (G : List O → Res O), CloF P w K mg base HfE jc g F0 nc G → FnOk P w K mg base (L2.CX P w) k f fd ps (spG K HfE g F0 n (M G))
end
end DL
namespace DL
open PySem L2 NdefX LamX
structure NdH (H : Hp) (P : Addr) (F : NF) (f : Addr) (H1 : Hp) : Prop where
  fr : H f = none
  fn : H1 f = some (FnO f F)
  co : H1 F.c = some (CodeO F.c F.qual)
  tb : TabN H1 P nestAt
  kp : ∀ b o, b ≠ P → H b = some o → H1 b = some o
  el : ∀ b, b ≠ P → b ≠ f → b ≠ F.c → H1 b = H b
  cf : H F.c = none ∨ H F.c = some (CodeO F.c F.qual)
section
variable {X : Cx} {pins : List (Addr × Obj)} {σ : L2.St} {H : Hp} {s : Shared}
end
section
variable {K : PySem.W.Frag} {H H1 Hf : Hp} {P f : Addr} {F : NF}
theorem NdH.ext (h : NdH H P F f H1) (hP : TabN H P nestAt) {T0 : List Addr} (r : Rows T0 Hf H) (sub : Same Hf H) : Ext Hf H Hf H1 := by
  obtain ⟨ps, p1, _, _⟩ := hP
  obtain ⟨ps1, t1, t2, t3⟩ := h.tb
  have fP : Hf P = none := by
    cases q : Hf P with
    | none => rfl
    | some o =>
      have z := sub P o q
      rw [p1] at z
      cases z
      exact absurd (.inr ⟨ps, rfl⟩) (r.nk P _ q)
  refine ⟨fun b o e => ?_, Same.refl _, fun b o e => ?_, fun _ _ z => z, fun {T} rt => ?_⟩
  · by_cases hb : b = P
    · subst hb
      rw [p1] at e
      cases e
      exact .inr ⟨.inr ⟨ps, rfl⟩, _, t1, .inr ⟨ps1, rfl⟩⟩
    · exact .inl (h.kp b o hb e)
  · by_cases hb : b = P
    · subst hb; rw [fP] at e; cases e
    · exact h.kp b o hb (sub b o e)
  · refine ⟨fun Q hQ => ?_, rt.nk, fun a C dx k rv fv e => ?_⟩
    · by_cases hb : Q = P
      · subst hb; exact h.tb
      · obtain ⟨us, a1, a2, a3⟩ := rt.tabs Q hQ
        refine ⟨us, h.kp _ _ hb a1, a2, fun p cv hc => ?_⟩
        obtain ⟨c0, e1, e2⟩ := a3 p cv hc
        exact ⟨c0, e1, h.kp _ _ (fun z => by rw [z, p1] at e2; cases e2) e2⟩
    · obtain ⟨rule, first, m, vs, h1, h2, h3, h4, h5⟩ := rt.at_ a C dx k rv fv e
      exact ⟨rule, first, m, vs, h1, h2, h.kp _ _ (fun z => by rw [z, p1] at h3; cases h3) h3, h4, h5⟩
end
end DL
namespace DL
open PySem L2 NdefX LamX
section
variable {M : Model} {A : Around} {E : Value → Shared → Prop} {s : Shared}
end
structure NScC (N ps fr : List Str) (sc : Scope) : Prop where
  kind : sc.kind = .function
  co : sc.isCoroutine = false
  gen : sc.isGenerator = false
  nd : N.Nodup
  pre : N.take (ps.length + fr.length) = ps ++ fr
  par : ∀ x ∈ ps, sc.names.lookup x = some .local
  cel : ∀ y ∈ sc.names, y.2 = .cell → sc.names.lookup y.1 = some .cell
  free : ∀ y ∈ sc.names, y.2 = .free → y.1 ∈ fr
  frk : ∀ x ∈ fr, sc.names.lookup x = some .free
section
variable {CX : CXT} {P : Program} {w : World} {K : PySem.W.Frag} {mg : Str → Option Value} {base : Heap} {N ps fr : List Str} {F : NF} {f : Addr} {A : Around} {outer : List PySem.Env} {s : Shared} {H : Hp} {E : XK} {us : List Value} {vs : List V} {ws : List (Option V)}
end
end DL
namespace DL
open PySem L2 NdefX LamX
section
variable {P : Program} {w : World} {K : PySem.W.Frag} {mg : Str → Option Value} {base : Heap} {N ps fr : List Str} {F : NF} {f : Addr} {k n : Nat} {HfE : Hp}
end
section
variable {c : Cn} {X : Cx} {e : Expr} {es : List Expr} {pos : Pos} {K : PySem.W.Frag} {H0 H H' Hf Hf' : Hp}
end
end DL
namespace DL
open PySem L2
def keyS (e : DictEntry) : Bool := match e.key with
  | .str _ _ => true
  | _ => false
def nsNone (K : PySem.W.Frag) (a : Addr) (x : Str) : Bool := match K.lookup a with
  | some ⟨_, _, .dict es _, _⟩ => es.toList.all keyS && (es.toList.find? (·.key.isStr x)).isNone
  | _ => false
theorem nsNone_ok {K : PySem.W.Frag} {a : Addr} {x : Str} {h : Heap} (X : K.In h) (c : nsNone K a x = true) : h.Ns a (h.nsMap a) ∧ h.nsMap a x = none := by
  unfold nsNone at c
  split at c
  · rename_i cl dc es ep sl q
    obtain ⟨c1, c2⟩ := Bool.and_eq_true_iff.mp c
    have e := X _ _ q
    refine ⟨.of_isNs ?_, ?_⟩
    · unfold Heap.isNs
      rw [e]
      dsimp only
      refine Array.all_eq_true_iff_forall_mem.mpr fun d hd => ?_
      have z := List.all_eq_true.mp c1 d (by simpa using hd)
      unfold keyS at z
      cases hk : d.key <;> rw [hk] at z <;> first | rfl | cases z
    · unfold Heap.nsMap
      rw [e]
      dsimp only
      unfold nsFind findBy
      rw [← Array.find?_toList]
      rw [Option.isNone_iff_eq_none] at c2
      rw [c2]
      rfl
  · cases c
def modB (K : PySem.W.Frag) : Bool := match PySem.W.nsIn K mainGlobals "__builtins__" with
  | some (some (.ref bm)) => (match K.lookup bm with
    | some ⟨.type "module", some d, _, _⟩ => d == builtinsNs
    | _ => false)
  | _ => false
def seerB (K : PySem.W.Frag) : Bool := nsNone K cStatics "sys.audit-hooks" && (nsNone K cStatics "sys.dict" && (nsNone K sysModules "_pylong" && modB K))
theorem seer_of {K : PySem.W.Frag} {mg : Str → Option Value} {base : Heap} (M : L2.Mod K mg base) (c : seerB K = true) : base.NoSeer := by
  obtain ⟨c1, c⟩ := Bool.and_eq_true_iff.mp c
  obtain ⟨c2, c⟩ := Bool.and_eq_true_iff.mp c
  obtain ⟨c3, c4⟩ := Bool.and_eq_true_iff.mp c
  obtain ⟨n1, e1⟩ := nsNone_ok M.kin c1
  obtain ⟨_, e2⟩ := nsNone_ok M.kin c2
  obtain ⟨n3, e3⟩ := nsNone_ok M.kin c3
  refine ⟨⟨_, n1, e1, e2⟩, ⟨_, n3, e3⟩, M.blt, ?_⟩
  unfold modB at c4
  split at c4
  · rename_i bm hb
    split at c4
    · rename_i d dt sl q
      refine ⟨mg, bm, _, M.glob, PySem.W.mg_of M.kin M.glob hb, M.kin _ _ q, rfl, ?_⟩
      exact congrArg some (beq_iff_eq.mp c4)
    · cases c4
  · cases c4
structure Wd (X : Cx) : Prop where
  st : ∃ env l, X.stack = env :: l ∧ env.scope.isGenerator = false ∧ env.scope.isCoroutine = false ∧ env.builtins = builtinsNs ∧ env.globals = mainGlobals
  tree : X.prog.given.tree = none
  seer : seerB X.K = true
section
variable {c : Cn} {X : Cx} {a b e : Expr} {es : List Expr} {fa fb : FE} {pos : Pos} {fs : Env → Res (List O)} {K : PySem.W.Frag} {k : Nat}
theorem Wd.blk {scope : Scope} {s : Shared} {H : Hp} {C : Addr} {cl : List (Str × Addr)} {fp : List Addr} (W : Wd X) : Wd (blkE X scope s H C cl fp) := ⟨W.st, W.tree, W.seer⟩
theorem room_of {pins : List (Addr × Obj)} {σ : St} {H : Hp} {s : Shared} (I : Inv X pins σ H s) (hr : Room k X.A) (hk : 34 ≤ k) (W : Wd X) : PylongRoom (model X.prog X.w) X.A s := by
  obtain ⟨env, l, e1, e2, e3, e4, e5⟩ := W.st
  have hb := hr.dp
  refine PylongRoom.of (I.ok.mod.nolimit.keeps I.bk) (by show X.A.depth + 100 < _; omega) ?_
  exact SeerAt.of ((seer_of I.ok.mod W.seer).keeps I.bk) W.tree (by rw [I.ok.frames, e1]) e2 e3 e4 e5
def divOkU (_ j : Int) : Bool := decide (j ≠ 0)
def gDivU := gInt divOkU fun i j => .int (i.fdiv j)
theorem op_fdivU (hr : Room k X.A) (hk : 34 ≤ k) (W : Wd X) : OpR X (binaryOp .FloorDiv) (rI (fun _ j => j ≠ 0) fun i j => .int (i.fdiv j)) := by
  intro pins s σ H x y v u Q I rx ry h
  obtain ⟨i, j, rfl, rfl, hc, q⟩ := h
  obtain ⟨t, rfl⟩ := rx
  obtain ⟨t', rfl⟩ := ry
  exact PyProof.Rows.floordiv_int hc ⟨.int (i.fdiv j), H, I.tok _, ⟨_, rfl⟩, q⟩ (.inr (room_of I hr hk W))
theorem de_fdivU (B : Bk c X k) (hk : 34 ≤ k) (W : Wd X) (ha : DE c X a fa) (hb : DE c X b fb) : DE c X (.BinOp a .FloorDiv b pos) (eOp gDivU fa fb) := de_op (op_fdivU B.hr hk W) (pure_I (fun i j h => of_decide_eq_true h) fun _ _ _ => rfl) ha hb
end
theorem Wd.fn {CX : CXT} {P : Program} {w : World} {K : PySem.W.Frag} {mg : Str → Option Value} {base : Heap} {N : List Str} {qual : Str} {scope : Scope} {f : Addr} {cd : Value} {A : Around} {outer : List PySem.Env} {s : Shared} {H : Hp} {E : XK}
    (hs : seerB K = true) (ht : P.given.tree = none) (h1 : scope.isGenerator = false) (h2 : scope.isCoroutine = false) : Wd (cxOf CX P w K mg base N qual scope f cd A outer s H E) := ⟨⟨_, _, rfl, h1, h2, rfl, rfl⟩, ht, hs⟩
theorem Wd.nox {X : Cx} (W : Wd X) : Wd X.nox := ⟨W.st, W.tree, W.seer⟩
def codeP (K : PySem.W.Frag) (x : Str) : Addr := match K.lookup (He.ga K x) with
  | some ⟨_, _, .func fd, _⟩ => (match fd.code with
    | .ref c => c
    | _ => 0)
  | _ => 0
def fr0 (g : Addr → Option Obj) (n : Nat) : PySem.W.Frag := He.frG g (cStatics :: sysModules :: He.asD g n)
def frN (g : Addr → Option Obj) (n : Nat) : PySem.W.Frag := He.frG g ((cStatics :: sysModules :: He.asD g n).filter fun a => !(tK (fr0 g n)).contains a)
def emptyT (g : Addr → Option Obj) (a : Addr) : Bool := match g a with
  | some ⟨.none, none, .fields ⟨[]⟩, ⟨[]⟩⟩ => true
  | _ => false
theorem emptyT_ok {g : Addr → Option Obj} {a : Addr} (h : emptyT g a = true) : g a = some { cls := .none, data := .fields #[] } := by
  unfold emptyT at h
  split at h
  · rename_i q; exact q
  · cases h
def nestB (K : PySem.W.Frag) (g : Addr → Option Obj) : Bool := nestNames.all fun x => (emptyT g (tabP K x) && ((K.lookup (tabP K x)).isNone && PySem.W.codeHdIn K (codeP K x) (tabP K x)))
abbrev AlN := AlY × Bool
def obsN (n : Nat) (fa : List He.Fa) (fn : List He.DefD) (ex : PySem.W.Frag → Bool) (g : Addr → Option Obj) : AlN := ((He.obsD fa fn (frN g n), ex (frN g n)), nestB (frN g n) g)
def hookN (n : Nat) (fa : List He.Fa) (fn : List He.DefD) (ex : PySem.W.Frag → Bool) : PySem.W.Hook where
  α := AlN
  obs := fun s => obsN n fa fn ex s.heap.get?
  val := fun _ => ((He.valD fn, true), true)
  says := fun _ h => ∃ K : PySem.W.Frag, K.In h ∧ (He.SaysD fa fn K ∧ ex K = true) ∧ ∀ x ∈ nestNames, h.get? (tabP K x) = some { cls := .none, data := .fields #[] } ∧ K.lookup (tabP K x) = none ∧ PySem.W.codeHdIn K (codeP K x) (tabP K x) = true
  of := fun _ s e => ⟨_, He.frG_in, ⟨congrArg (fun z : AlN => z.1.1) e, congrArg (fun z : AlN => z.1.2) e⟩, fun x hx => by
    have e2 : nestB (frN s.heap.get? n) s.heap.get? = true := congrArg (fun z : AlN => z.2) e
    have z := List.all_eq_true.mp e2 x hx
    obtain ⟨z1, z⟩ := Bool.and_eq_true_iff.mp z
    obtain ⟨z2, z3⟩ := Bool.and_eq_true_iff.mp z
    exact ⟨emptyT_ok z1, Option.isNone_iff_eq_none.mp z2, z3⟩⟩
  keeps := fun _ _ _ ⟨K, hK, d, t⟩ k => ⟨K, PySem.W.Frag.In.keeps hK k, d, fun x hx => ⟨k _ _ (t x hx).1, (t x hx).2⟩⟩
theorem obsN_eq {n : Nat} {fa : List He.Fa} {fn : List He.DefD} {ex : PySem.W.Frag → Bool} {g : Addr → Option Obj} {s : Shared} (h : ∀ a, g a = s.heap.get? a) : obsN n fa fn ex g = (hookN n fa fn ex).obs s := by
  have e : g = s.heap.get? := funext h
  rw [e] <;> rfl
def csN (K : PySem.W.Frag) : List (Addr × Addr) := nestNames.map fun x => (codeP K x, tabP K x)
theorem tK_cs {K : PySem.W.Frag} {P : Addr} (h : P ∈ tK K) : ∃ p ∈ csN K, p.2 = P := by
  obtain ⟨x, hx, e⟩ := List.mem_map.mp h
  exact ⟨(codeP K x, tabP K x), List.mem_map.mpr ⟨x, hx, rfl⟩, e⟩
theorem walk_ofN {l : PySem.W.OpenLaw} {n k m : Nat} {fa : List He.Fa} {fn : List He.DefD} {ex : PySem.W.Frag → Bool} {q : Program} {loose : List Str} {XP : (Str → Option Value) → Heap → Prop} {d : DefRec} {CX : CXT} {x : Str}
    (hn : l.most = some n) (hn2 : n ≤ sizeLine) (hdf : d.params.defaults = []) (hr : Room k PySem.callerA)
    (F : ∀ (w : World) (mg : Str → Option Value) (fa0 : Addr) (h : Heap) (K : PySem.W.Frag), K.In h → He.SaysD fa fn K → ex K = true → h.Ns mainGlobals mg → mg d.name = some (.ref fa0) →
      ∃ (fd : FuncData) (sp : Sp), (∀ (s : Shared) (u : Value), BindsTo s fd ⟨[u], []⟩ [(x, u)]) ∧
        (∀ (H : Hp) (a : Addr) (ns : List Int), ns.length ≤ n → (∀ z ∈ ns, Builtin.Int.intBits z ≤ 1048576) → TabsA (tK K) H → SqL K H a (ns.map V.int) → sp [.ref a] H (fun v _ => v = .bl true) fun _ _ _ => False) ∧
        ∀ base : Heap, K.In base → base.Ns mainGlobals mg → (∀ p ∈ csN K, LamX.TabB base mg p.1 p.2) → FnOk l.prog w K mg base CX k fa0 fd [x] sp)
    (hCX : ∀ (H : Hp) (s : Shared) (e : Value) (s' : Shared), CX [] H s (fun _ _ _ => False) e s' → False) :
    PySem.W.WalkO q loose XP (hookN m fa fn ex).says l.row.toRowW d [] (fun f vs => PySem.call f vs) := by
  refine Att.attach_callB hn hdf fun w s₀ s₁ mg mb fa0 o pm cd doc a vs ns G Y ho hd hcd hmg hobj hints hlen hbits hg => ?_
  obtain ⟨K, KX, ⟨sd, hex⟩, ht⟩ := Y
  obtain ⟨fd, sp, hb, hsp, hF⟩ := F w mg fa0 _ K KX sd hex G.T.g hmg
  have mem : ∀ p ∈ csN K, ∃ y ∈ nestNames, p = (codeP K y, tabP K y) := fun p hp => by
    obtain ⟨y, hy, e⟩ := List.mem_map.mp hp
    exact ⟨y, hy, e.symm⟩
  refine LamX.law_callTs (cs := csN K) KX G.T.g G.T.b G.T.builtins G.T.nolimit hg (fun p hp => ?_) (fun p hp => ?_) (fun p hp => ?_) G.T.bmain hobj hints (Nat.le_trans hlen hn2) hr hF hb (fun H hH hS => hsp H a ns hlen hbits (fun P hP => ?_) hS) fun H e s' => hCX H s₁ e s'
  · obtain ⟨y, hy, e⟩ := mem p hp; subst e; exact (ht y hy).1
  · obtain ⟨y, hy, e⟩ := mem p hp; subst e; exact (ht y hy).2.1
  · obtain ⟨y, hy, e⟩ := mem p hp; subst e; exact PySem.W.codeHd_of_K KX (ht y hy).2.2
  · obtain ⟨p, hp, e⟩ := tK_cs hP
    subst e
    exact NdefX.TabN.nil (hH p hp)
theorem run_join {α β δ : Type} {o : Option α} {l : α → Bool} {q : α → β} {x y e n : α → Bool} {m : α → δ} {qv : β} {mv : δ} (h1 : o.map (fun s => (l s, q s)) = some (true, qv)) (h2 : o.map x = some true) (h3 : o.map y = some true) (h4 : o.map m = some mv) (h5 : o.map e = some true) (h6 : o.map n = some true) :
    o.map (fun s => (l s, q s, ((((x s && y s), m s), e s), n s))) = some (true, qv, (((true, mv), true), true)) := by
  cases o with
  | none => cases h2
  | some s =>
    simp only [Option.map_some, Option.some.injEq, Prod.mk.injEq] at *
    exact ⟨h1.1, h1.2, ⟨⟨by rw [h2, h3]; rfl, h4⟩, h5⟩, h6⟩
end DL
namespace DL
open PySem L2 NdefX LamX
section
variable {P : Program} {w : World} {K : PySem.W.Frag} {mg : Str → Option Value} {base : Heap} {x qual : Str} {params : Arguments} {body : List Stmt} {scope : Scope} {fd : FuncData} {N ps : List Str} {k n : Nat}
end
end DL
namespace DL
open PySem L2 NdefX LamX
section
variable {c : Cn} {X : Cx} {K : PySem.W.Frag} {e : Expr} {f : FE}
end
end DL
namespace DL
open PySem L2
end DL
namespace DL
open PySem L2
end DL
namespace DL
open PySem L2
section
variable {X : Cx} {pins : List (Addr × Obj)} {σ : St} {H : Hp} {s : Shared} {d : Addr} {o : Obj}
theorem Inv_frzTv {kvs : List (List Key × V)} (I : Inv X pins σ H s) (h : H d = some (.frz o (.dT kvs))) :
    (d == sysModules) = false ∧ s.heap.get? d = some o ∧ o.ExactDict ∧ ∃ (es : Array DictEntry) (ep : Nat), o.data = .dict es ep ∧ es.size = kvs.length ∧
      ∀ (i : Nat) (k : List Key) (v : V), kvs[i]? = some (k, v) → ∃ (en : DictEntry) (q : Addr), es[i]? = some en ∧ en.key = .ref q ∧ H q = some (.tup (k.map kV)) ∧ RelV v en.val := by
  obtain ⟨hd, z, hs, xs, pr, o', es, ep, ho, hx, hdt, he, _⟩ := I.hok d _ h
  rw [hd] at ho
  cases ho
  refine ⟨hs, hd, hx, es, ep, hdt, ?_, fun i k v e => ?_⟩
  · have l1 : es.size = xs.length := size_of_entries he
    have l2 : kvs.length = xs.length := Paired.length pr
    omega
  · obtain ⟨b, hb, e1, e2, e3⟩ := paired_get pr e
    have q := entry_at he i
    rw [hb] at q
    exact ⟨_, b.2.1, q, rfl, e2, e3⟩
end
def ItiT (d : Addr) (o : Obj) (kvs : List (List Key × V)) : It :=
  ⟨fun i H => H d = some (.frz o (.dT kvs)) ∧ i < kvs.length, fun i H x H' => ∃ T k v q, kvs[i]? = some (k, v) ∧ H q = some (.tup (k.map kV)) ∧ x = .ref T ∧ H T = none ∧ H' = upd H T (.tup [.ref q, v]), fun i H => H d = some (.frz o (.dT kvs)) ∧ kvs.length ≤ i⟩
section
variable {P : Program} {w : World} {K : PySem.W.Frag} {d : Addr} {o : Obj} {es : Array DictEntry} {ep : Nat}
theorem turn_itemsT {kvs : List (List Key × V)} {elts : List Expr} {kk : Nat} {tpos : Pos} (it : Addr) (hod : o.data = .dict es ep) :
    Turn P w K (.Tuple elts kk tpos) (ItiT d o kvs) [it] it (fun i h => ∃ ok ov, IsItemIter h it d i kvs.length ep ok ov) where
  mem := by simp
  obj := fun i h st b hb => by
    have e : b = it := by simpa using hb
    subst e
    obtain ⟨ok, ov, e⟩ := st
    exact ⟨_, e, fun v z => nomatch z⟩
  keep := fun i h h' st k => let ⟨ok, ov, e⟩ := st; ⟨ok, ov, k it (by simp) _ e⟩
  item := by
    intro X hP hw hK hc i pins s σ H E I hf st hg
    subst hP hw hK
    obtain ⟨hd, hi⟩ := hg
    obtain ⟨hs, hgd, hx, es', ep', hdt, hsz, ent⟩ := Inv_frzTv I hd
    obtain ⟨rfl, rfl⟩ := dict_ep hod hdt
    obtain ⟨⟨k, v⟩, hkv⟩ : ∃ p, kvs[i]? = some p := ⟨kvs[i], List.getElem?_eq_getElem hi⟩
    obtain ⟨en, q, hen, hkey, hq, hv⟩ := ent i k v hkv
    obtain ⟨ok, ov, he⟩ := st
    rw [← hsz] at he
    have hlt : it < s.heap.objs.size := Heap.lt_size he
    have hi2 : i < es'.size := by omega
    have hen2 : es'[i] = en := by
      rw [Array.getElem?_eq_getElem hi2] at hen
      exact Option.some.inj hen
    refine DT.nextI he ⟨o, hgd, hx, hod⟩ hi2 fun h' ho hT hz hk => ?_
    rw [hen2] at ho hT
    refine ⟨_, rfl, wpAny_letOwnedTupleGo_items (s := { s with heap := h' }) ho fun h'' he' sb => ?_⟩
    have hT2 : h''.get? s.heap.objs.size = some { cls := .type "tuple", data := .seq #[en.key, en.val] } := (sb.2 _ (Nat.ne_of_gt hlt)).trans hT
    have new : ObjOk X.prog X.w (upd H s.heap.objs.size (.tup [.ref q, v])) h'' s.heap.objs.size (.tup [.ref q, v]) :=
      ⟨by show 2 ≤ sizeLine; decide, [en.key, en.val], .cons (show RelV (.ref q) en.key from hkey) (.cons hv .nil), ⟨_, hT2, rfl, _, rfl⟩⟩
    have I1 : Inv X pins σ (upd H s.heap.objs.size (.tup [.ref q, v])) { s with heap := h'' } :=
      I.turnedNew (t' := s.toks) (ch := [it]) (fun b ob hb e => (sb.2 b (by simpa using hb)).trans (hk b ob (by simpa using hb) e)) hf (Nat.le_refl _) new
    refine ⟨.ref s.heap.objs.size, _, I1, rfl, ⟨_, k, v, q, hkv, hq, rfl, I.hok.fresh (Nat.le_refl _), rfl⟩, ⟨en.key, en.val, ?_⟩, fun b hb => ?_⟩
    · rw [← hsz]; exact he'
    · have e : b = it := by simpa using hb
      rw [e, upd_ne (Nat.ne_of_lt hlt)]
      exact (hf it (by simp)).1
  done := by
    intro X hP hw hK hc i pins s σ H E I hf st hg
    subst hP hw hK
    obtain ⟨hd, hi⟩ := hg
    obtain ⟨f0, f1, f2, f3, f4, f5⟩ := hf it (by simp)
    obtain ⟨hs, hgd, hx, es', ep', hdt, hsz, ent⟩ := Inv_frzTv I hd
    obtain ⟨rfl, rfl⟩ := dict_ep hod hdt
    obtain ⟨ok, ov, he⟩ := st
    rw [← hsz] at he
    exact DT.endI (I.ok.hd hc) he ⟨o, hgd, hx, hod⟩ (by omega) fun h' eb => ⟨rfl, I.turned (t' := s.toks) (fun b ob hb e => eb b ob hb e) f0 f1 f3 f4 f5⟩
  self := fun A i s Q E st h => let ⟨_, _, e⟩ := st; PySem.W.kcp_self e h
end
def iItemsT (td : TE) : TI := fun σ H R => td σ H fun x H1 => ∃ d o kvs, x = .ref d ∧ H1 d = some (.frz o (.dT kvs)) ∧ R (ItiT d o kvs) H1
section
variable {X : Cx} {tg e : Expr} {td : TE} {apos cpos : Pos}
theorem pi_itemsT {elts : List Expr} {kk : Nat} {tpos : Pos} (he : PE X e td) (hbase : attributeBase e "items" X.env (eval e X.env) = eval e X.env := by rfl) (hline : (apos.endLine == cpos.line) = true := by rfl) :
    PI X (.Tuple elts kk tpos) (.Call (.Attribute e "items" apos) [] [] cpos) (iItemsT td) := by
  refine ⟨fun pins s σ H R I h => ?_⟩
  refine wpAny_Call_method (T := "dict") (id := "dict.items") hbase rfl hline F.plainAttrs_dict F.slot_dict_items F.type_dict_items (thn (he.run pins s σ H _ I h) fun u s1 ⟨x, H1, I1, rx, d, o, kvs, ex, hd, q⟩ => ?_)
  subst ex
  obtain rfl : u = Value.ref d := rx
  obtain ⟨hs, hgd, hx, es, ep, hdt, hsz, ent⟩ := Inv_frzTv I1 hd
  have hraw : DT.Raw s1.heap d es ep := ⟨o, hgd, hx, hdt⟩
  refine ⟨hraw.typeIs, fun a e => by cases e; exact ⟨o, hgd, hx.2.1⟩, ?_⟩
  have I2 : Inv X pins σ H1 { s1 with heap := s1.heap.push { cls := .type "dict_items", data := .fields #[.ref d] } } := I1.kept (t' := s1.toks) fun b ob q => Heap.get?_push_of_some _ q
  have fin : wpAny (model X.prog X.w) X.A (pyIter (.ref s1.heap.objs.size)) (PIE X pins σ (.Tuple elts kk tpos) R) X.xe { s1 with heap := s1.heap.push { cls := .type "dict_items", data := .fields #[.ref d] } } := by
    refine DT.iterI (d := d) ⟨_, Heap.get?_push_size _ rfl, rfl, rfl⟩ (hraw.push _) (pi_one (tk := s1.toks) I2 _ (turn_itemsT _ hdt) ⟨.none, .none, ?_⟩ q)
    rw [← hsz]
    exact Heap.get?_push_size _ rfl
  show wpAny _ _ (callWith cpos (.builtin "dict.items") [.ref d] [] []) _ X.xe s1
  exact method_meetsIn F.slot_dict_items F.entry_dict_items rfl (PySem.evalArgs_none ⟨rfl, hraw.typeIs, F.args_dict_items_1 _, _, DT.meetsItems (es := es) (ep := ep) hs, ⟨hraw, fin⟩⟩)
end
end DL
namespace DL
open PySem L2
variable {c : Cn} {X : Cx} {a b e : Expr} {es : List Expr} {f g fa fb : FE} {pos : Pos} {fs : Env → Res (List O)} {K : PySem.W.Frag} {H0 H H' Hf Hf' : Hp} {F G : FS} {st : Stmt} {sts : List Stmt} {ft : Env → Res Bool}
def isDT (kvs : List (List Key × V)) (o : HO) : Prop := o = .dT kvs ∨ ∃ ob, o = .frz ob (.dT kvs)
def Tw (H H' : Hp) : Prop := ∀ a o, H a = some o → ∃ o', H' a = some o' ∧ (o' = o ∨ ∃ kvs, isDT kvs o ∧ isDT kvs o')
theorem Tw.at {p : Addr} {o : HO} (t : Tw H H') (h : H p = some o) (n : ∀ kvs, ¬ isDT kvs o) : H' p = some o := by
  obtain ⟨o', h1, h2 | ⟨kvs, h3, _⟩⟩ := t p o h
  · rw [h1, h2]
  · exact absurd h3 (n kvs)
theorem Tw.rd {p : Addr} {kvs : List (List Key × V)} (t : Tw H H') (h : Rd H p (.dT kvs)) : Rd H' p (.dT kvs) := by
  have go : ∀ o, H p = some o → isDT kvs o → Rd H' p (.dT kvs) := fun o h i => by
    obtain ⟨o', h1, h2 | ⟨kvs', h3, h4⟩⟩ := t p o h
    · subst h2
      rcases i with i | ⟨ob, i⟩
      · exact .inl (by rw [h1, i])
      · exact .inr ⟨ob, by rw [h1, i]⟩
    · have e : kvs' = kvs := by
        rcases i with i | ⟨ob, i⟩ <;> rcases h3 with j | ⟨ob', j⟩ <;> rw [i] at j <;> cases j <;> rfl
      subst e
      rcases h4 with i | ⟨ob, i⟩
      · exact .inl (by rw [h1, i])
      · exact .inr ⟨ob, by rw [h1, i]⟩
  rcases h with h | ⟨ob, h⟩
  · exact go _ h (.inl rfl)
  · exact go _ h (.inr ⟨ob, rfl⟩)
theorem nDT {o : HO} (h : ∀ kvs, o ≠ .dT kvs) (h2 : ∀ ob u, o ≠ .frz ob u) : ∀ kvs, ¬ isDT kvs o := fun kvs z => by
  rcases z with z | ⟨ob, z⟩
  · exact h _ z
  · exact h2 _ _ z
theorem Tw.lst {p : Addr} {xs : List V} (t : Tw H H') (h : H p = some (.lst xs)) : H' p = some (.lst xs) := t.at h (nDT (fun _ z => nomatch z) fun _ _ z => nomatch z)
theorem Tw.tup {p : Addr} {xs : List V} (t : Tw H H') (h : H p = some (.tup xs)) : H' p = some (.tup xs) := t.at h (nDT (fun _ z => nomatch z) fun _ _ z => nomatch z)
theorem Tw.ins {p C dx : Addr} {fs : List (Str × V)} (t : Tw H H') (h : H p = some (.ins C dx fs)) : H' p = some (.ins C dx fs) := t.at h (nDT (fun _ z => nomatch z) fun _ _ z => nomatch z)
theorem Tw.own {p x : Addr} (t : Tw H H') (h : H p = some (.own x)) : H' p = some (.own x) := t.at h (nDT (fun _ z => nomatch z) fun _ _ z => nomatch z)
theorem Tw.xd {p : Addr} {fs : List (Str × V)} (t : Tw H H') (h : H p = some (.xd fs)) : H' p = some (.xd fs) := t.at h (nDT (fun _ z => nomatch z) fun _ _ z => nomatch z)
theorem Tw.dK {p : Addr} {xs : List (Key × V)} (t : Tw H H') (h : H p = some (.dK xs)) : H' p = some (.dK xs) := t.at h (nDT (fun _ z => nomatch z) fun _ _ z => nomatch z)
theorem Tw.ext {p : Addr} {φ : Heap → Prop} (t : Tw H H') (h : H p = some (.ext φ)) : H' p = some (.ext φ) := t.at h (nDT (fun _ z => nomatch z) fun _ _ z => nomatch z)
theorem Tw.tbl {p : Addr} {ps : Array Value} (t : Tw H H') (h : H p = some (.tbl ps)) : H' p = some (.tbl ps) := t.at h (nDT (fun _ z => nomatch z) fun _ _ z => nomatch z)
theorem Tw.fl {p : Addr} {ob : Obj} {xs : List V} (t : Tw H H') (h : H p = some (.frz ob (.lst xs))) : H' p = some (.frz ob (.lst xs)) := t.at h fun kvs z => by
  rcases z with z | ⟨ob, z⟩ <;> cases z
theorem Tw.ne (t : Tw H H') {p : Addr} (h : H p ≠ none) : H' p ≠ none := by
  cases q : H p with
  | none => exact absurd q h
  | some o =>
    obtain ⟨o', h1, _⟩ := t p o q
    rw [h1]; simp
theorem EcR.tw {e : Ec} {cls : Value} {d : Option Addr} (t : Tw H H') (h : EcR K e cls d H) : EcR K e cls d H' := by
  obtain ⟨C, h1, h2, h3⟩ := h
  refine ⟨C, h1, h2, ?_⟩
  cases d with
  | none => exact h3
  | some a => exact ⟨h3.1, t.xd h3.2⟩
theorem PolyAt.tw (t : Tw H H') {p : List Int} {v : V} (h : PolyAt H p v) : PolyAt H' p v := let ⟨a, e1, h1⟩ := h; ⟨a, e1, t.lst h1⟩
theorem FrAt.tw (t : Tw H H') {p : Int × Int} {v : V} (h : FrAt H p v) : FrAt H' p v := let ⟨a, e1, h1⟩ := h; ⟨a, e1, t.tup h1⟩
theorem PolysAt.tw (t : Tw H H') {p : List (List Int)} {v : V} (h : PolysAt H p v) : PolysAt H' p v := let ⟨a, vs, e1, h1, h2⟩ := h; ⟨a, vs, e1, t.lst h1, pairedM h2 fun _ _ z => z.tw t⟩
theorem FrsAt.tw (t : Tw H H') {p : List (Int × Int)} {v : V} (h : FrsAt H p v) : FrsAt H' p v := let ⟨a, vs, e1, h1, h2⟩ := h; ⟨a, vs, e1, t.lst h1, pairedM h2 fun _ _ z => z.tw t⟩
theorem seqL_tw (t : Tw H H') {p : Addr} {xs : List V} (h : SqL K H p xs) : SqL K H' p xs := by
  rcases h with (h | ⟨o, h⟩) | h
  · exact .inl (.inl (t.lst h))
  · exact .inl (.inr ⟨o, t.fl h⟩)
  · exact .inr h
mutual
theorem Rep.tw (e : Tw H H') : ∀ (d : D) (v : V), Rep K H d v → Rep K H' d v
  | .non, _, h => h
  | .bl _, _, h => h
  | .int _, _, h => h
  | .str _, _, h => h
  | .ex _, _, h => by
    obtain ⟨a, e1, cls, d, h1, h2⟩ := h
    refine ⟨a, e1, cls, d, e.at h1 (nDT (fun _ z => ?_) fun _ _ z => ?_), h2.tw e⟩
    · cases d <;> cases z
    · cases d <;> cases z
  | .scr ns, _, h => by
    obtain ⟨a, e1, h1⟩ := h
    exact ⟨a, e1, seqL_tw e h1⟩
  | .lst ds, _, h => by
    obtain ⟨a, vs, e1, h1, h2⟩ := h
    exact ⟨a, vs, e1, e.lst h1, Reps.tw e ds vs h2⟩
  | .tup ds, _, h => by
    obtain ⟨a, vs, e1, h1, h2⟩ := h
    exact ⟨a, vs, e1, e.tup h1, Reps.tw e ds vs h2⟩
  | .obj c ns ds, _, h => by
    obtain ⟨a, dx, vs, e1, h1, h3, h4, h2⟩ := h
    exact ⟨a, dx, vs, e1, e.ins h1, e.own h3, h4, Reps.tw e ds vs h2⟩
  | .row r f, _, h => by
    obtain ⟨a, e1, dx, r', f', k, h1, h2, h3, h4⟩ := h
    exact ⟨a, e1, dx, r', f', k, e.ins h1, e.own h2, h3.tw e, h4.tw e⟩
  | .dct ks ds, _, h => by
    obtain ⟨a, vs, e1, h1, h3, h2⟩ := h
    exact ⟨a, vs, e1, e.rd h1, h3, Reps.tw e ds vs h2⟩
  | .dck ks ds, _, h => by
    obtain ⟨a, vs, e1, h1, h3, h2⟩ := h
    exact ⟨a, vs, e1, e.dK h1, h3, Reps.tw e ds vs h2⟩
theorem Reps.tw (e : Tw H H') : ∀ (ds : List D) (vs : List V), Reps K H ds vs → Reps K H' ds vs
  | [], _, h => h
  | d :: ds, _, h => by
    obtain ⟨v, r, e1, h1, h2⟩ := h
    exact ⟨v, r, e1, Rep.tw e d v h1, Reps.tw e ds r h2⟩
end
mutual
theorem RepV.tw (f : Tw Hf Hf') (e : Tw H H') : ∀ (o : O) (v : V), RepV K Hf H o v → RepV K Hf' H' o v
  | .fz d, v, h => Rep.tw f d v h
  | .ls os, _, h => by
    obtain ⟨a, vs, e1, h1, h2⟩ := h
    exact ⟨a, vs, e1, e.lst h1, RepVs.tw f e os vs h2⟩
  | .tp os, _, h => by
    obtain ⟨a, vs, e1, h1, h2⟩ := h
    exact ⟨a, vs, e1, e.tup h1, RepVs.tw f e os vs h2⟩
  | .ob c ns os, _, h => by
    obtain ⟨a, dx, vs, e1, h1, h3, h4, h2, hn⟩ := h
    exact ⟨a, dx, vs, e1, e.ins h1, e.own h3, h4, RepVs.tw f e os vs h2, hn⟩
  | .dt ks ds, _, h => by
    obtain ⟨a, vs, e1, h1, h3, h2⟩ := h
    exact ⟨a, vs, e1, e.rd h1, h3, Reps.tw f ds vs h2⟩
  | .dk ks ds, _, h => by
    obtain ⟨a, vs, e1, h1, h3, h2⟩ := h
    exact ⟨a, vs, e1, e.dK h1, h3, Reps.tw f ds vs h2⟩
  | .gh o _ _, v, h => RepV.tw f e o v h
theorem RepVs.tw (f : Tw Hf Hf') (e : Tw H H') : ∀ (os : List O) (vs : List V), RepVs K Hf H os vs → RepVs K Hf' H' os vs
  | [], _, h => h
  | o :: os, _, h => by
    obtain ⟨v, r, e1, h1, h2⟩ := h
    exact ⟨v, r, e1, RepV.tw f e o v h1, RepVs.tw f e os r h2⟩
end
mutual
theorem RepO.tw (f : Tw Hf Hf') : ∀ (o : O) (v : V) (L : List Addr), (∀ a ∈ L, ∀ u, H a = some u → H' a = some u) → RepO K Hf H o v L → RepO K Hf' H' o v L
  | .fz d, _, _, _, h => ⟨Rep.tw f d _ h.1, h.2⟩
  | .ls os, _, L, e, h => by
    obtain ⟨a, vs, M, e1, h1, h2, e2⟩ := h
    subst e2
    exact ⟨a, vs, M, e1, e a (by simp) _ h1, RepOs.tw f os vs M (fun b hb => e b (by simp [hb])) h2, rfl⟩
  | .tp os, _, L, e, h => by
    obtain ⟨a, vs, M, e1, h1, h2, e2⟩ := h
    subst e2
    exact ⟨a, vs, M, e1, e a (by simp) _ h1, RepOs.tw f os vs M (fun b hb => e b (by simp [hb])) h2, rfl⟩
  | .ob c ns os, _, L, e, h => by
    obtain ⟨a, dx, vs, M, e1, h1, h3, h4, h2, hn, e2⟩ := h
    subst e2
    exact ⟨a, dx, vs, M, e1, e a (by simp) _ h1, e dx (by simp) _ h3, h4, RepOs.tw f os vs M (fun b hb => e b (by simp [hb])) h2, hn, rfl⟩
  | .dt ks ds, _, L, e, h => by
    obtain ⟨a, vs, e1, h1, h3, h2, e2⟩ := h
    subst e2
    exact ⟨a, vs, e1, e a (by simp) _ h1, h3, Reps.tw f ds vs h2, rfl⟩
  | .dk ks ds, _, L, e, h => by
    obtain ⟨a, vs, e1, h1, h3, h2, e2⟩ := h
    subst e2
    exact ⟨a, vs, e1, e a (by simp) _ h1, h3, Reps.tw f ds vs h2, rfl⟩
  | .gh o a m, _, L, e, h => by
    obtain ⟨L1, L2, h1, h2, e2⟩ := h
    subst e2
    exact ⟨L1, L2, RepO.tw f o _ L1 (fun b hb => e b (by simp [hb])) h1, RepO.tw f m _ L2 (fun b hb => e b (by simp [hb])) h2, rfl⟩
theorem RepOs.tw (f : Tw Hf Hf') : ∀ (os : List O) (vs : List V) (L : List Addr), (∀ a ∈ L, ∀ u, H a = some u → H' a = some u) → RepOs K Hf H os vs L → RepOs K Hf' H' os vs L
  | [], _, _, _, h => h
  | o :: os, _, L, e, h => by
    obtain ⟨v, r, L1, L2, e1, e2, h1, h2⟩ := h
    subst e2
    exact ⟨v, r, L1, L2, e1, rfl, RepO.tw f o v L1 (fun b hb => e b (by simp [hb])) h1, RepOs.tw f os r L2 (fun b hb => e b (by simp [hb])) h2⟩
end
theorem EnvR.tw {H0' : Hp} (f : Tw Hf Hf') (z : Tw H0 H0') (T : Tst H H') : ∀ {r : Env} {s : St} {L : List Addr}, (∀ a ∈ L, ∀ u, H a = some u → H' a = some u) → EnvR K Hf H0 H r s L → EnvR K Hf' H0' H' r s L
  | [], _, _, _, h => h
  | x :: r, _, L, e, h => by
    obtain ⟨y, t, L1, L2, e1, e2, h1, h2⟩ := h
    subst e2
    refine ⟨y, t, L1, L2, e1, rfl, ?_, EnvR.tw f z T (fun b hb => e b (by simp [hb])) h2⟩
    cases x with
    | un => exact h1
    | vl w o =>
      cases y with
      | none => cases w <;> exact h1
      | some v =>
        cases w with
        | true => exact RepO.tw f o v L1 (fun b hb => e b (by simp [hb])) h1
        | false => exact ⟨RepV.tw f z o v h1.1, h1.2⟩
    | me p o =>
      cases y with
      | none => exact h1
      | some v => exact ⟨h1.1, RepO.tw f o v L1 (fun b hb => e b (by simp [hb])) h1.2⟩
    | tq k =>
      cases y with
      | none => exact h1
      | some v => exact let ⟨h2, q, h3, h4⟩ := h1; ⟨h2, q, h3, T _ _ h4⟩
    | lt a o =>
      cases y with
      | none => exact h1
      | some v => exact ⟨h1.1, h1.2.1, RepV.tw f z o v h1.2.2⟩
    | fa a =>
      cases y with
      | none => exact h1
      | some v => exact h1
theorem isKn_nd {o : HO} (h : isKn o) : ∀ kvs, ¬ isDT kvs o := fun kvs z => by
  obtain ⟨φ, e⟩ := isKn_ext h
  rcases z with z | ⟨ob, z⟩ <;> rw [z] at e <;> cases φ <;> cases e
theorem Rows.tw (f : Tw Hf Hf') (f2 : Tw Hf' Hf) (e : Tw H H') {T : List Addr} (h : Rows T Hf H) : Rows T Hf' H' where
  tabs := fun p hp => let ⟨ps, a1, a2, a3⟩ := h.tabs p hp; ⟨ps, e.tbl a1, a2, fun pos cv hc => let ⟨c, e1, e2⟩ := a3 pos cv hc; ⟨c, e1, e.ext e2⟩⟩
  nk := fun p o ho hk => h.nk p o (f2.at ho (isKn_nd hk)) hk
  at_ := fun p C dx k r g hp => by
    obtain ⟨rule, first, m, vs, h1, h2, h3, h4, h5⟩ := h.at_ p C dx k r g (f2.ins hp)
    exact ⟨rule, first, m, vs, h1.tw f, h2.tw f, e.ext h3, pairedM h4 fun _ _ z => z.tw f, fun a' C' dx' r' f' h' => h5 a' C' dx' r' f' (f2.ins h')⟩
end DL
namespace DL
open PySem L2
variable {c : Cn} {X : Cx} {a b e : Expr} {es : List Expr} {f g fa fb : FE} {pos : Pos} {fs : Env → Res (List O)} {K : PySem.W.Frag} {H0 H H' Hf Hf' : Hp} {F G : FS} {st : Stmt} {sts : List Stmt} {ft : Env → Res Bool}
def pt (d : Addr) (w : HO) (H : Hp) : Hp := fun a => if a = d then (match H d with | none => none | some _ => some w) else H a
section
variable {d p : Addr} {w : HO} {kvs : List (List Key × V)}
theorem pt_ne (h : p ≠ d) : pt d w H p = H p := if_neg h
theorem pt_some {o : HO} (h : H d = some o) : pt d w H d = some w := by unfold pt; rw [if_pos rfl, h]
theorem pt_none (h : H d = none) : pt d w H d = none := by unfold pt; rw [if_pos rfl, h]
theorem pt_nn : pt d w H p = none ↔ H p = none := by
  by_cases h : p = d
  · subst h
    cases q : H p with
    | none => rw [pt_none q]
    | some o => rw [pt_some q]; simp
  · rw [pt_ne h]
theorem pt_upd {o : HO} (h : H d = some o) : pt d w H = upd H d w := funext fun p => by
  by_cases e : p = d
  · subst e; rw [pt_some h, upd_same]
  · rw [pt_ne e, upd_ne e]
theorem pt_pt {w' : HO} (h : H d = none ∨ H d = some w) : pt d w (pt d w' H) = H := funext fun p => by
  by_cases e : p = d
  · subst e
    rcases h with h | h
    · rw [pt_none (pt_none h), h]
    · rw [pt_some (pt_some h), h]
  · rw [pt_ne e, pt_ne e]
theorem pt_same (s : Same H H') : Same (pt d w H) (pt d w H') := fun p o h => by
  by_cases e : p = d
  · subst e
    cases q : H p with
    | none => rw [pt_none q] at h; cases h
    | some u => rw [pt_some q] at h; rw [pt_some (s p u q)]; exact h
  · rw [pt_ne e] at h ⊢; exact s p o h
theorem pt_sm (s : Sm H H') : Sm (pt d w H) (pt d w H') := fun p o h => by
  by_cases e : p = d
  · subst e
    cases q : H p with
    | none => rw [pt_none q] at h; cases h
    | some u =>
      rw [pt_some q] at h
      cases q2 : H' p with
      | none => exact absurd q2 (s.ne_none (by rw [q]; simp))
      | some u2 => rw [pt_some q2]; exact .inl h
  · rw [pt_ne e] at h ⊢; exact s p o h
theorem tw_pt (h : ∀ o, H d = some o → isDT kvs o) (hw : isDT kvs w) : Tw H (pt d w H) ∧ Tw (pt d w H) H := by
  constructor
  · intro p o ho
    by_cases e : p = d
    · subst e; exact ⟨w, pt_some ho, .inr ⟨kvs, h o ho, hw⟩⟩
    · exact ⟨o, by rw [pt_ne e]; exact ho, .inl rfl⟩
  · intro p o ho
    by_cases e : p = d
    · subst e
      cases q : H p with
      | none => rw [pt_none q] at ho; cases ho
      | some u =>
        rw [pt_some q] at ho
        cases ho
        exact ⟨u, rfl, .inr ⟨kvs, hw, h u q⟩⟩
    · rw [pt_ne e] at ho; exact ⟨o, ho, .inl rfl⟩
theorem isDT_sm {o : HO} (s : Sm H H') (h : H d = some o) (h2 : ∀ o, H' d = some o → isDT kvs o) : isDT kvs o := by
  rcases s d o h with h1 | ⟨_, o', h1, k1⟩
  · exact h2 o h1
  · exact absurd (h2 o' h1) (isKn_nd k1 kvs)
theorem SR.pt {Hf0 : Hp} {r : Env} {s : St} {L : List Addr} (sr : SR K Hf0 H0 r s Hf H L) (hd : ∀ o, H d = some o → isDT kvs o) (hw : isDT kvs w) (hL : d ∉ L) : SR K (pt d w Hf0) (pt d w H0) r s (pt d w Hf) (pt d w H) L := by
  have d0 : ∀ o, H0 d = some o → isDT kvs o := fun o h => isDT_sm sr.ext.same h hd
  have df : ∀ o, Hf d = some o → isDT kvs o := fun o h => hd o (sr.sub d o h)
  have df0 : ∀ o, Hf0 d = some o → isDT kvs o := fun o h => df o (sr.ext.fsame d o h)
  have ne : ∀ p ∈ L, p ≠ d := fun p hp e => by subst e; exact hL hp
  have rows2 := sr.rows.tw (tw_pt df hw).1 (tw_pt df hw).2 (tw_pt hd hw).1
  refine ⟨⟨pt_sm sr.ext.same, pt_same sr.ext.fsame, pt_same sr.ext.sub, fun p h1 h2 h3 => ?_, fun ht => (sr.ext.rows (ht.tw (tw_pt df0 hw).2 (tw_pt df0 hw).1 (tw_pt d0 hw).2)).tw (tw_pt df hw).1 (tw_pt df hw).2 (tw_pt hd hw).1⟩, sr.env.tw (tw_pt df hw).1 (tw_pt d0 hw).1 (fun p xs h => by
    by_cases e : p = d
    · subst e; rcases hd _ h with z | ⟨_, z⟩ <;> cases z
    · rw [pt_ne e]; exact h) (fun p hp u h => by rw [pt_ne (ne p hp)]; exact h), sr.nd, fun p hp => ?_, fun p hp => ?_, rows2⟩
  · exact sr.ext.keep p (fun z => h1 (pt_nn.mpr z)) (fun z => h2 (pt_nn.mpr z)) (pt_nn.mp h3)
  · exact ⟨pt_nn.mpr (sr.fr p hp).1, pt_nn.mpr (sr.fr p hp).2⟩
  · exact fun z => sr.ok p hp (pt_nn.mp z)
end
theorem SR.storeQ {r : Env} {s : St} {L : List Addr} {i : Nat} {qa : Addr} {k : List Key} (sr : c.SR K r s Hf H L) (hq : H qa = some (.tup (k.map kV))) (hi : i < r.length) : ∃ L1, c.SR K (r.set i (.tq k)) (s.set i (some (.ref qa))) Hf H L1 := by
  obtain ⟨L', h⟩ := sr.unset hi
  obtain ⟨y, A, M, B, h1, h2, h3, h4⟩ := h.env.at (i := i) (x := .un) (by simp [hi])
  have hM : M = [] := h3
  subst hM
  have env := h4 Hf H (.tq k) (some (.ref qa)) [] (Same.refl _) Tst.rf (fun _ _ _ z => z) ⟨rfl, qa, rfl, hq⟩
  rw [List.set_set, List.set_set, ← h2] at env
  exact ⟨L', h.ext, env, h.nd, h.fr, h.ok, h.rows⟩
def forD (m n : Nat) (F : FS) : List (List Key × D) → FS
  | [], r => .nx r
  | p :: ps, r => if m < r.length ∧ n < r.length then (match F ((r.set m (.tq p.1)).set n (.vl true (.fz p.2))) with
    | .nx r' => forD m n F ps r'
    | .ct r' => forD m n F ps r'
    | .bk r' => .nx r'
    | .ret o => .ret o
    | _ => .bad) else .bad
theorem reps_get : ∀ {ds : List D} {vs : List V} {i : Nat} {d : D}, Reps K H ds vs → ds[i]? = some d → ∃ v, vs[i]? = some v ∧ Rep K H d v
  | [], _, i, d, _, e => by simp at e
  | x :: ds, _, 0, d, h, e => by
    obtain ⟨v, r, e1, h1, h2⟩ := h
    subst e1
    simp at e
    subst e
    exact ⟨v, rfl, h1⟩
  | x :: ds, _, i + 1, d, h, e => by
    obtain ⟨v, r, e1, h1, h2⟩ := h
    subst e1
    simp at e
    exact reps_get (i := i) h2 (by simpa using e)
theorem so_forD {i m n : Nat} {tb : TS} {ps : List (List Key × D)} {dd : Addr} {ob : Obj} {ws : List V} {r : Env} {s : St} {L : List Addr} {D : Ends} (hb : SoS c K tb F) (sr : c.SR K r s Hf H L)
    (hi : s[i]? = some (some (.ref dd))) (hst : ∀ Hf2 H2, Same Hf Hf2 → Same Hf2 H2 → Sm c.H0 H2 → H2 dd = some (.frz ob (.dT ((ps.map (·.1)).zip ws))))
    (hr : Reps K Hf (ps.map (·.2)) ws) (q : PostS c K Hf D (forD m n F ps r)) :
    tFor (iItemsT (tVar i)) (gTup K 2 (gCons (gName m) (gCons (gName n) gNil))) tb D s H := by
  have hl : ((ps.map (·.1)).zip ws).length = ps.length := by
    have := Reps.length hr
    simp only [List.length_map] at this
    rw [List.length_zip, List.length_map, this, Nat.min_self]
  refine ⟨.ref dd, hi, dd, ob, _, rfl, hst Hf H (Same.refl _) sr.sub sr.same0, ?_⟩
  refine ⟨fun j w s' H' => w = ps.length - j ∧ j ≤ ps.length ∧ ∃ r' Hf' L', c.SR K r' s' Hf' H' L' ∧ Same Hf Hf' ∧ PostS c K Hf' D (forD m n F (ps.drop j) r'), ⟨ps.length, by simp, Nat.zero_le _, r, Hf, L, sr, Same.refl _, by simpa using q⟩, ?_⟩
  rintro j w s1 H1 ⟨rfl, hle, r1, Hf1, L1, sr1, f1, q1⟩
  have hd := hst Hf1 H1 f1 sr1.sub sr1.same0
  by_cases hlt : j < ps.length
  · rw [List.drop_eq_getElem_cons hlt] at q1
    refine .inr ⟨⟨hd, by rw [hl]; exact hlt⟩, fun s' H' => ∃ r' Hf' L', c.SR K r' s' Hf' H' L' ∧ Same Hf Hf' ∧ PostS c K Hf' D (forD m n F (ps.drop (j + 1)) r'), fun s' H' ⟨r', Hf', L', h⟩ => ⟨ps.length - (j + 1), by omega, rfl, hlt, r', Hf', L', h⟩, fun x H3 hy => ?_⟩
    obtain ⟨T, k, v, qa, hkv, hq, ex, hT, e3⟩ := hy
    subst ex e3
    have hlw : j < ws.length := by
      have := Reps.length hr
      simp only [List.length_map] at this
      omega
    have hkv2 : k = ps[j].1 ∧ v = ws[j] := by
      rw [List.getElem?_eq_getElem (by rw [hl]; exact hlt)] at hkv
      have := Option.some.inj hkv
      simp only [List.getElem_zip, List.getElem_map] at this
      exact ⟨(congrArg Prod.fst this).symm, (congrArg Prod.snd this).symm⟩
    obtain ⟨rfl, rfl⟩ := hkv2
    have hdv : Rep K Hf1 ps[j].2 ws[j] := by
      have := reps_get (Reps.mono f1 _ _ hr) (i := j) (d := ps[j].2) (by simp [hlt])
      obtain ⟨v, h1, h2⟩ := this
      rw [List.getElem?_eq_getElem hlw] at h1
      cases h1; exact h2
    have hqT : qa ≠ T := fun e => by subst e; rw [hT] at hq; cases hq
    have sr3 := sr1.mono (Ext.new (o := .tup [.ref qa, ws[j]]) sr1.sub hT)
    have hq3 : upd H1 T (.tup [.ref qa, ws[j]]) qa = some (.tup (ps[j].1.map kV)) := by rw [upd_ne hqT]; exact hq
    unfold forD at q1
    by_cases hc : m < r1.length ∧ n < r1.length
    case neg => rw [if_neg hc] at q1; exact q1.elim
    rw [if_pos hc] at q1
    obtain ⟨L5, sr5⟩ := sr3.storeQ hq3 hc.1
    obtain ⟨L6, sr6⟩ := sr5.storeA (x := .nw (.fz ps[j].2)) (v := ws[j]) (i := n) (r1 := (r1.set m (.tq ps[j].1)).set n (.vl true (.fz ps[j].2))) hdv (by simp [gN, hc.2])
    refine ⟨T, _, rfl, .inl (.inl upd_same), rfl, .ref qa, _, rfl, ws[j], _, rfl, rfl, ?_⟩
    refine hb _ _ _ _ _ sr6 _ ?_
    cases eF : F ((r1.set m (.tq ps[j].1)).set n (.vl true (.fz ps[j].2))) with
    | nx r2 =>
      rw [eF] at q1
      exact fun s2 Hf2 H2 L2 f2 z => ⟨_, Hf2, L2, z, f1.trans f2, q1.mono f2⟩
    | ct r2 =>
      rw [eF] at q1
      exact fun s2 Hf2 H2 L2 f2 z => ⟨_, Hf2, L2, z, f1.trans f2, q1.mono f2⟩
    | bk r2 =>
      rw [eF] at q1
      exact q1
    | ret o =>
      rw [eF] at q1
      exact q1
    | exc e' r2 => rw [eF] at q1; exact q1.elim
    | bad => rw [eF] at q1; exact q1.elim
  · have e : j = ps.length := by omega
    subst e
    rw [List.drop_length] at q1
    exact .inl ⟨⟨hd, by rw [hl]; exact Nat.le_refl _⟩, q1 s1 Hf1 H1 L1 (Same.refl _) sr1⟩
theorem forD_exc {m n : Nat} : ∀ (ps : List (List Key × D)) (r : Env) (e : Ec) (r' : Env), forD m n F ps r ≠ .exc e r'
  | [], r, e, r' => fun z => by cases z
  | p :: ps, r, e, r' => by
    unfold forD
    split
    · split
      · exact forD_exc ps _ e r'
      · exact forD_exc ps _ e r'
      · exact fun z => by cases z
      · exact fun z => by cases z
      · exact fun z => by cases z
    · exact fun z => by cases z
def tAllS (X : Cx) (sts : List Stmt) : TS := fun D σ H => ∃ t, PSs X sts t ∧ t D σ H
theorem pss_all : PSs X sts (tAllS X sts) := by
  refine ⟨fun pins s σ H D I h => ?_⟩
  obtain ⟨t, p, h⟩ := h
  exact p.run pins s σ H D I h
theorem so_all (h : DSs c X sts F) : SoS c X.K (tAllS X sts) F := fun r s Hf H L sr D q => by
  obtain ⟨t, p, so⟩ := h.ex
  exact ⟨t, p, so r s Hf H L sr D q⟩
def dI (w : Bool) : O → Option (List (List Key × D))
  | .fz (.dct ks xs) => if ks.length = xs.length then some (ks.zip xs) else none
  | .dt ks xs => if w = false ∧ ks.length = xs.length then some (ks.zip xs) else none
  | _ => none
def sForDI (i m n : Nat) (F : FS) : FS := fun r => match r[i]? with
  | some (.vl w o) => (match dI w o with
    | some ps => forD m n F ps r
    | none => .bad)
  | _ => .bad
theorem zip_fst' {α β : Type} {ks : List α} {xs : List β} (h : ks.length = xs.length) : (ks.zip xs).map (·.1) = ks := by
  rw [List.map_fst_zip]; omega
theorem zip_snd' {α β : Type} {ks : List α} {xs : List β} (h : ks.length = xs.length) : (ks.zip xs).map (·.2) = xs := by
  rw [List.map_snd_zip]; omega
def tForDI (K : PySem.W.Frag) (i m n : Nat) (tb : TS) : TS := tFor (iItemsT (tVar i)) (gTup K 2 (gCons (gName m) (gCons (gName n) gNil))) tb
theorem so_forDI {i m n : Nat} {tb : TS} (hb : ∀ c2 : Cn, (c2.W = c.W ∨ c2.W = fun _ _ _ _ => False) → SoS c2 K tb F) : SoS c K (fun D σ H => tForDI K i m n tb D σ H ∨ tLock (tForDI K i m n tb) D σ H) (sForDI i m n F) := fun r s Hf H L sr D q => by
  unfold sForDI at q
  split at q
  case h_2 => exact q.elim
  rename_i w o hi
  split at q
  case h_2 => exact q.elim
  rename_i ps hps
  obtain ⟨v, hv, hrep⟩ := sr.slot hi
  obtain ⟨dd, ws, rfl, hw, hstate⟩ : ∃ dd ws, v = .ref dd ∧ Reps K Hf (ps.map (·.2)) ws ∧ (Rd c.H0 dd (.dT ((ps.map (·.1)).zip ws)) ∨ Rd Hf dd (.dT ((ps.map (·.1)).zip ws))) := by
    obtain ⟨y, _, M, _, hy, _, hs, _⟩ := sr.env.at hi
    rw [hv] at hy
    cases hy
    cases o with
    | fz d =>
      cases d with
      | dct ks xs =>
        simp only [dI] at hps
        split at hps
        · rename_i hl
          cases hps
          obtain ⟨a, vs, e1, h1, h2, h3⟩ := hrep
          exact ⟨a, vs, e1, by rw [zip_snd' hl]; exact h3, .inr (by rw [zip_fst' hl]; exact h1)⟩
        · cases hps
      | _ => cases hps
    | dt ks xs =>
      simp only [dI] at hps
      split at hps
      · rename_i hl
        cases hps
        cases hl.1
        obtain ⟨⟨a, vs, e1, h1, h2, h3⟩, _⟩ := hs
        exact ⟨a, vs, e1, by rw [zip_snd' hl.2]; exact h3, .inl (by rw [zip_fst' hl.2]; exact h1)⟩
      · cases hps
    | _ => cases hps
  generalize hkv : (ps.map (·.1)).zip ws = kvs at hstate
  have hdL : dd ∉ L := fun z => by
    rcases hstate with (h | ⟨_, h⟩) | (h | ⟨_, h⟩)
    · rw [(sr.fr dd z).2] at h; cases h
    · rw [(sr.fr dd z).2] at h; cases h
    · rw [(sr.fr dd z).1] at h; cases h
    · rw [(sr.fr dd z).1] at h; cases h
  have hcase : (∃ ob, (c.H0 dd = some (.frz ob (.dT kvs)) ∨ Hf dd = some (.frz ob (.dT kvs)))) ∨ ((c.H0 dd = some (.dT kvs) ∨ Hf dd = some (.dT kvs)) ∧ H dd = some (.dT kvs)) := by
    rcases hstate with (h | ⟨ob, h⟩) | (h | ⟨ob, h⟩)
    · exact .inr ⟨.inl h, sr.same0.dT h⟩
    · exact .inl ⟨ob, .inl h⟩
    · exact .inr ⟨.inr h, sr.sub _ _ h⟩
    · exact .inl ⟨ob, .inr h⟩
  rcases hcase with ⟨ob, hl⟩ | ⟨hu, hd⟩
  · left
    refine so_forD (hb c (.inl rfl)) sr hv (ob := ob) (fun Hf2 H2 s1 s2 s3 => ?_) hw q
    rw [hkv]
    rcases hl with h | h
    · exact s3.at h (Hk.ne rfl)
    · exact s2 _ _ (s1 _ _ h)
  · right
    refine ⟨dd, .dT kvs, hd, True.intro, fun ob => ?_⟩
    have hDH : ∀ o, H dd = some o → isDT kvs o := fun o h => by rw [hd] at h; cases h; exact .inl rfl
    have wDT : isDT kvs (.frz ob (.dT kvs)) := .inr ⟨ob, rfl⟩
    have uDT : isDT kvs (.dT kvs) := .inl rfl
    have sr' := SR.pt sr hDH wDT hdL
    have dF : ∀ o, Hf dd = some o → o = .dT kvs := fun o h => by
      have := sr.sub _ _ h
      rw [hd] at this; exact (Option.some.inj this).symm
    have d0 : ∀ o, c.H0 dd = some o → o = .dT kvs := fun o h => by
      rcases sr.same0 dd o h with h1 | ⟨_, o', h1, k1⟩
      · rw [hd] at h1; exact (Option.some.inj h1).symm
      · rw [hd] at h1
        obtain ⟨φ, e⟩ := isKn_ext k1
        rw [← Option.some.inj h1] at e; cases φ <;> cases e
    have dF0 : ∀ o, c.Hf0 dd = some o → o = .dT kvs := fun o h => dF o (sr.ext.fsame _ _ h)
    have orn : ∀ {Z : Hp}, (∀ o, Z dd = some o → o = .dT kvs) → Z dd = none ∨ Z dd = some (.dT kvs) := fun {Z} h => by
      cases z : Z dd with
      | none => exact .inl rfl
      | some o => exact .inr (by rw [h o z])
    have hst : ∀ Hf2 H2, Same (pt dd (.frz ob (.dT kvs)) Hf) Hf2 → Same Hf2 H2 → Sm (pt dd (.frz ob (.dT kvs)) c.H0) H2 → H2 dd = some (.frz ob (.dT kvs)) := fun Hf2 H2 s1 s2 s3 => by
      rcases hu with h | h
      · exact s3.at (pt_some h) (Hk.ne rfl)
      · exact s2 _ _ (s1 _ _ (pt_some h))
    have hnL : ∀ {Hf2 : Hp} {L2 : List Addr}, Same (pt dd (.frz ob (.dT kvs)) Hf) Hf2 → (∀ p ∈ L2, Hf2 p = none ∧ pt dd (.frz ob (.dT kvs)) c.H0 p = none) → dd ∉ L2 := fun {Hf2 L2} s1 s2 z => by
      rcases hu with h | h
      · have := (s2 dd z).2; rw [pt_some h] at this; cases this
      · have := (s2 dd z).1; rw [s1 _ _ (pt_some h)] at this; cases this
    have wf := tw_pt (w := .frz ob (.dT kvs)) (H := Hf) (d := dd) (kvs := kvs) (fun o h => .inl (dF o h)) wDT
    rw [← pt_upd hd]
    have key := so_forD (c := ⟨pt dd (.frz ob (.dT kvs)) c.Hf0, pt dd (.frz ob (.dT kvs)) c.H0, fun _ _ _ _ => False⟩) (K := K) (F := F) (i := i) (m := m) (n := n) (tb := tb) (ps := ps) (dd := dd) (ob := ob) (ws := ws) (r := r) (s := s) (L := L)
      (D := ⟨fun σ' H' => H' dd = some (.frz ob (.dT kvs)) ∧ D.nx σ' (upd H' dd (.dT kvs)), fun v H' => H' dd = some (.frz ob (.dT kvs)) ∧ D.rt v (upd H' dd (.dT kvs)), fun σ' H' => H' dd = some (.frz ob (.dT kvs)) ∧ D.bk σ' (upd H' dd (.dT kvs)), fun σ' H' => H' dd = some (.frz ob (.dT kvs)) ∧ D.ct σ' (upd H' dd (.dT kvs))⟩)
      (hb _ (.inr rfl)) sr' hv (by rw [hkv]; exact hst) (Reps.tw wf.1 _ _ hw)
    refine key ?_
    have go : ∀ {r2 : Env} {s2 : St} {Hf2 H2 : Hp} {L2 : List Addr}, Same (pt dd (.frz ob (.dT kvs)) Hf) Hf2 → SR K (pt dd (.frz ob (.dT kvs)) c.Hf0) (pt dd (.frz ob (.dT kvs)) c.H0) r2 s2 Hf2 H2 L2 →
        H2 dd = some (.frz ob (.dT kvs)) ∧ Same Hf (pt dd (.dT kvs) Hf2) ∧ c.SR K r2 s2 (pt dd (.dT kvs) Hf2) (upd H2 dd (.dT kvs)) L2 := fun {r2 s2 Hf2 H2 L2} f2 z => by
      have h1 := hst Hf2 H2 f2 z.sub z.ext.same
      have z2 := SR.pt (d := dd) (w := .dT kvs) (kvs := kvs) z (fun o h => by rw [h1] at h; cases h; exact wDT) uDT (hnL f2 z.fr)
      rw [pt_pt (orn dF0), pt_pt (orn d0), pt_upd h1] at z2
      have f3 := pt_same (d := dd) (w := .dT kvs) f2
      rw [pt_pt (orn dF)] at f3
      exact ⟨h1, f3, z2⟩
    cases eF : forD m n F ps r with
    | nx r2 =>
      rw [eF] at q
      intro s2 Hf2 H2 L2 f2 z
      obtain ⟨h1, f3, z2⟩ := go f2 z
      exact ⟨h1, q _ _ _ _ f3 z2⟩
    | bk r2 =>
      rw [eF] at q
      intro s2 Hf2 H2 L2 f2 z
      obtain ⟨h1, f3, z2⟩ := go f2 z
      exact ⟨h1, q _ _ _ _ f3 z2⟩
    | ct r2 =>
      rw [eF] at q
      intro s2 Hf2 H2 L2 f2 z
      obtain ⟨h1, f3, z2⟩ := go f2 z
      exact ⟨h1, q _ _ _ _ f3 z2⟩
    | ret o =>
      rw [eF] at q
      intro v2 Hf2 H2 L2 f2 x2 h2 n2
      have h1 := hst Hf2 H2 f2 x2.sub x2.same
      have hn := hnL (L2 := L2) f2 fun p hp => ⟨(n2.fr p hp).2.1, (n2.fr p hp).1⟩
      have wDF2 : ∀ o, Hf2 dd = some o → isDT kvs o := fun o h => by
        have := x2.sub _ _ h
        rw [h1] at this; rw [← Option.some.inj this]; exact wDT
      have w2 := tw_pt (w := .dT kvs) (H := Hf2) (d := dd) (kvs := kvs) wDF2 uDT
      have f3 := pt_same (d := dd) (w := .dT kvs) f2
      rw [pt_pt (orn dF)] at f3
      refine ⟨h1, ?_⟩
      rw [← pt_upd h1]
      refine q v2 (pt dd (.dT kvs) Hf2) _ L2 f3 ⟨?_, ?_, pt_same x2.sub, fun p a1 a2 => ?_, fun hr => ?_⟩ (RepO.tw w2.1 o v2 L2 (fun p hp u h => by rw [pt_ne (fun e => by subst e; exact hn hp)]; exact h) h2) ⟨n2.nd, fun p hp => ?_⟩
      · have := pt_sm (d := dd) (w := .dT kvs) x2.same
        rwa [pt_pt (orn d0)] at this
      · have := pt_same (d := dd) (w := .dT kvs) x2.fsame
        rwa [pt_pt (orn dF0)] at this
      · exact fun z => x2.keep p (fun y => a1 (pt_nn.mp y)) (fun y => a2 (pt_nn.mpr y)) (pt_nn.mpr z)
      · have r1 := hr.tw (tw_pt (fun o h => .inl (dF0 o h)) wDT).1 (tw_pt (fun o h => .inl (dF0 o h)) wDT).2 (tw_pt (fun o h => .inl (d0 o h)) wDT).1
        exact (x2.rows r1).tw w2.1 w2.2 (tw_pt (fun o h => by rw [h1] at h; cases h; exact wDT) uDT).1
      · obtain ⟨a1, a2, a3⟩ := n2.fr p hp
        exact ⟨pt_nn.mp a1, pt_nn.mpr a2, fun z => a3 (pt_nn.mp z)⟩
    | exc e' r2 => exact absurd eF (forD_exc ps r e' r2)
    | bad => rw [eF] at q; exact q.elim
theorem ds_forDI {k i m n kk : Nat} {xm xn : Str} {p1 p2 tpos apos cpos : Pos} (B : Bk c X k) (hN : X.N.Nodup) (hi : PE X e (tVar i)) (hm : X.N[m]? = some xm) (hn : X.N[n]? = some xn) (lm : Loc X.env.scope xm) (ln : Loc X.env.scope xn)
    (fm : X.fn xm = true ∨ X.env.scope.names.lookup xm = some .local) (fn' : X.fn xn = true ∨ X.env.scope.names.lookup xn = some .local) (hb : ∀ c2 : Cn, Bk c2 X k → DSs c2 X sts F)
    (hbase : attributeBase e "items" X.env (eval e X.env) = eval e X.env := by rfl) (hline : (apos.endLine == cpos.line) = true := by rfl)
    (h1 : (assignEach [.Name xm p1, .Name xn p2] X.env).length = 2 := by rfl) (h2 : (assignEach [.Name xm p1, .Name xn p2] X.env).findIdx? (·.1) = none := by rfl)
    (h3 : (assignEach [.Name xm p1, .Name xn p2] X.env).map (·.2) = assign (.Name xm p1) X.env :: (assignEach [.Name xn p2] X.env).map (·.2) := by rfl)
    (h4 : (assignEach [.Name xn p2] X.env).map (·.2) = assign (.Name xn p2) X.env :: (assignEach ([] : List Expr) X.env).map (·.2) := by rfl)
    (hs : ∀ x, foldedSetIterable (.Call (.Attribute e "items" apos) [] [] cpos) X.env x = pure x := by intro _; rfl) :
    DS c X (.For (.Tuple [.Name xm p1, .Name xn p2] kk tpos) (.Call (.Attribute e "items" apos) [] [] cpos) sts [] pos) (sForDI i m n F) := by
  have P0 : PS X (.For (.Tuple [.Name xm p1, .Name xn p2] kk tpos) (.Call (.Attribute e "items" apos) [] [] cpos) sts [] pos) (tForDI X.K i m n (tAllS X sts)) :=
    ps_for B.po B.calm (pi_itemsT hi hbase hline) (pg_tup B.calm (pgs_cons (pg_name hN hm lm fm) (pgs_cons (pg_name hN hn ln fn') pgs_nil h4) h3) h1 h2) pss_all hs
  have P1 := ps_lock P0
  refine ⟨_, ⟨fun pins s σ H D I h => ?_⟩, so_forDI (c := c) (K := X.K) (F := F) (i := i) (m := m) (n := n) (tb := tAllS X sts) fun c2 h => so_all (hb c2 ?_)⟩
  · rcases h with h | h
    · exact P0.run pins s σ H D I h
    · exact P1.run pins s σ H D I h
  · rcases h with h | h
    · exact ⟨B.hr, by rw [h]; exact B.tk, B.po, B.calm⟩
    · exact ⟨B.hr, by rw [h]; exact fun u s' ⟨a, B', sI, pins, σ, H, cls, d, e, I, nb, up, sky, na, os, ag, w⟩ => w.elim, B.po, B.calm⟩
end DL
namespace DL
open PySem L2
variable {c : Cn} {X : Cx} {a b e : Expr} {es : List Expr} {f g fa fb : FE} {pos : Pos} {fs : Env → Res (List O)} {K : PySem.W.Frag} {H0 H H' Hf Hf' : Hp} {F G : FS} {st : Stmt} {sts : List Stmt} {ft : Env → Res Bool}
def keyD : D → Option Key
  | .int i => some (.inl i)
  | .str t => some (.inr t)
  | _ => none
def keysD : List D → Option (List Key)
  | [] => some []
  | d :: ds => (keyD d).bind fun k => (keysD ds).map (k :: ·)
def keysO : List O → Option (List Key)
  | [] => some []
  | .fz d :: os => (keyD d).bind fun k => (keysO os).map (k :: ·)
  | _ :: _ => none
def keyO : O → Option (List Key)
  | .fz (.tup ds) => keysD ds
  | .tp os => keysO os
  | _ => none
theorem keyD_rep {d : D} {k : Key} {v : V} (h : keyD d = some k) (r : Rep K H d v) : v = kV k := by
  cases d with
  | int i => cases h; exact r
  | str t => cases h; exact r
  | _ => cases h
theorem keysD_rep : ∀ {ds : List D} {k : List Key} {vs : List V}, keysD ds = some k → Reps K H ds vs → vs = k.map kV
  | [], k, vs, h, r => by cases h; exact r
  | d :: ds, k, vs, h, r => by
    obtain ⟨v, w, e1, h1, h2⟩ := r
    subst e1
    cases e : keyD d with
    | none => simp [keysD, e] at h
    | some x =>
      cases e2 : keysD ds with
      | none => simp [keysD, e, e2] at h
      | some y =>
        simp [keysD, e, e2] at h
        subst h
        rw [keyD_rep e h1, keysD_rep e2 h2]; rfl
theorem keysO_rep : ∀ {os : List O} {k : List Key} {vs : List V}, keysO os = some k → RepVs K Hf H os vs → vs = k.map kV
  | [], k, vs, h, r => by cases h; exact r
  | o :: os, k, vs, h, r => by
    obtain ⟨v, w, e1, h1, h2⟩ := r
    subst e1
    cases o with
    | fz d =>
      cases e : keyD d with
      | none => simp [keysO, e] at h
      | some x =>
        cases e2 : keysO os with
        | none => simp [keysO, e, e2] at h
        | some y =>
          simp [keysO, e, e2] at h
          subst h
          rw [keyD_rep e h1, keysO_rep e2 h2]; rfl
    | _ => simp [keysO] at h
theorem keyO_rep {o : O} {k : List Key} {v : V} (s : Same Hf H) (h : keyO o = some k) (r : RepV K Hf H o v) : ∃ b, v = .ref b ∧ H b = some (.tup (k.map kV)) := by
  cases o with
  | fz d =>
    cases d with
    | tup ds =>
      obtain ⟨a, vs, e1, h1, h2⟩ := r
      exact ⟨a, e1, by rw [s _ _ h1, keysD_rep h h2]⟩
    | _ => cases h
  | tp os =>
    obtain ⟨a, vs, e1, h1, h2⟩ := r
    exact ⟨a, e1, by rw [h1, keysO_rep h h2]⟩
  | _ => cases h
def dctO : O → Option (List (List Key) × List D)
  | .fz (.dct ks ds) => some (ks, ds)
  | .dt ks ds => some (ks, ds)
  | _ => none
theorem dctO_rep {o : O} {ks : List (List Key)} {ds : List D} {v : V} (s : Same Hf H) (h : dctO o = some (ks, ds)) (r : RepV K Hf H o v) : ∃ a vs, v = .ref a ∧ Rd H a (.dT (ks.zip vs)) ∧ ks.length = ds.length ∧ Reps K Hf ds vs := by
  cases o with
  | fz d =>
    cases d with
    | dct ks ds =>
      cases h
      obtain ⟨a, vs, e1, h1, h2, h3⟩ := r
      exact ⟨a, vs, e1, h1.imp (fun z => s _ _ z) (fun ⟨ob, z⟩ => ⟨ob, s _ _ z⟩), h2, h3⟩
    | _ => cases h
  | dt ks ds =>
    cases h
    exact r
  | _ => cases h
def valP : List (List Key) → List D → List Key → Option D
  | k' :: ks, d :: ds, k => if k' = k then some d else valP ks ds k
  | _, _, _ => none
theorem valP_rep : ∀ {ks : List (List Key)} {ds : List D} {vs : List V} {k : List Key}, ks.length = ds.length → Reps K H ds vs → (valP ks ds k = none ∧ valV (ks.zip vs) k = none) ∨ ∃ d v, valP ks ds k = some d ∧ valV (ks.zip vs) k = some v ∧ Rep K H d v
  | [], _, _, k, _, _ => .inl ⟨by simp [valP], rfl⟩
  | k' :: ks, [], _, k, h, _ => by simp at h
  | k' :: ks, d :: ds, _, k, h, r => by
    obtain ⟨v, w, e1, h1, h2⟩ := r
    subst e1
    by_cases e : k' = k
    · exact .inr ⟨d, v, by simp [valP, e], valV_pos (p := (k', v)) e, h1⟩
    · have ih := valP_rep (k := k) (by simpa using h) h2
      rw [List.zip_cons_cons, valV_neg (p := (k', v)) e]
      simp only [valP, if_neg e]
      exact ih
def eDNew : FE := fun _ => .ok (.nw (.dt [] []))
theorem de_dnew : DE c X (.Dict [] [] pos) eDNew := ⟨tDNewT, pe_dnewT, fun r s Hf H L sr Q q p hp => q (.ref p) Hf _ [p] (Ext.new sr.sub hp) ⟨p, [], rfl, upd_same, rfl, rfl, rfl⟩
  ⟨by simp, fun x hx => by
    have e : x = p := by simpa using hx
    subst e
    exact ⟨hp, sub_none sr.sub hp, by rw [upd_same]; simp⟩⟩⟩
def eDGet2 (i : Nat) (g : FE) (n : Int) : FE := fun r => match r[i]? with
  | some (.vl _ o) => (match dctO o with
    | some p => (g r).bind fun y => (match keyO y.a with
      | some k => .ok (.nw (.fz ((valP p.1 p.2 k).getD (.int n))))
      | none => .bad)
    | none => .bad)
  | _ => .bad
theorem de_dget2 {j i : Nat} {n : Int} {o e2 : Expr} {apos cpos : Pos} (B : Bk c X j) (hv : PE X o (tVar i)) (hk : DE c X e g) (hd : PE X e2 (tC (.int n))) (m : M2 X o "get" apos e e2 cpos) : DE c X (.Call (.Attribute o "get" apos) [e, e2] [] cpos) (eDGet2 i g n) := by
  obtain ⟨t, p, s⟩ := hk.ex
  have hu : X.A.units + 1 < cLine := by have := B.hr.un; omega
  refine ⟨tDGet2 (tVar i) t (tC (.int n)), pe_dget2 hu hv p hd m, fun r s' Hf H L sr Q q => ?_⟩
  unfold eDGet2 at q
  split at q
  case h_2 => exact q.elim
  rename_i w o hi
  split at q
  case h_2 => exact q.elim
  rename_i pr ed
  obtain ⟨ks, ds⟩ := pr
  obtain ⟨v, h1, h2⟩ := sr.slot hi
  obtain ⟨da, vs, ev, hr, hl, hrep⟩ := dctO_rep sr.sub ed h2
  subst ev
  refine ⟨.ref da, h1, da, rfl, .inr ⟨_, hr⟩, ?_⟩
  refine s r s' Hf H L sr _ ?_
  cases eg : g r with
  | bad => rw [eg] at q; exact q.elim
  | exc e' => rw [eg] at q; exact q
  | ok y =>
    rw [eg] at q
    simp only [Res.bind] at q
    split at q
    case h_2 => exact q.elim
    rename_i k ek
    intro u Hf1 H1 L1 x1 a1 n1
    have sr1 := sr.mono x1
    have b2 := (a1.argR n1).a sr1.same0
    have x2 := x1.add n1 a1.nq
    obtain ⟨b, eu, hb⟩ := keyO_rep x2.sub ek b2
    subst eu
    have hr1 : Rd H1 da (.dT (ks.zip vs)) := hr.imp (fun z => x1.same.dT z) fun ⟨ob, z⟩ => ⟨ob, x1.same.at z (Hk.ne rfl)⟩
    refine ⟨valV (ks.zip vs) k, .inr ⟨_, k, b, hr1, rfl, hb, rfl⟩, ?_⟩
    rcases valP_rep (k := k) hl (Reps.mono x2.fsame _ _ hrep) with ⟨z1, z2⟩ | ⟨d, v, z1, z2, z3⟩
    · rw [z2]
      rw [z1] at q
      exact q _ _ _ [] x2 ⟨rfl, rfl⟩ nw_nil
    · rw [z2]
      rw [z1] at q
      exact q _ _ _ [] x2 ⟨z3, rfl⟩ nw_nil
def putP {α : Type} : List (List Key) → List α → List Key → α → List (List Key) × List α
  | k' :: ks, x :: xs, k, y => if k' = k then (k' :: ks, y :: xs) else (k' :: (putP ks xs k y).1, x :: (putP ks xs k y).2)
  | _, _, k, y => ([k], [y])
theorem putP_len {α : Type} : ∀ {ks : List (List Key)} {xs : List α} {k : List Key} {y : α}, ks.length = xs.length → (putP ks xs k y).1.length = (putP ks xs k y).2.length
  | [], [], k, y, _ => rfl
  | [], _ :: _, _, _, h => by simp at h
  | _ :: _, [], _, _, h => by simp at h
  | k' :: ks, x :: xs, k, y, h => by
    unfold putP
    split
    · simpa using h
    · simp [putP_len (k := k) (y := y) (show ks.length = xs.length by simpa using h)]
theorem putP_fst {α β : Type} : ∀ {ks : List (List Key)} {xs : List α} {zs : List β} {k : List Key} {y : α} {z : β}, ks.length = xs.length → ks.length = zs.length → (putP ks xs k y).1 = (putP ks zs k z).1
  | [], [], [], _, _, _, _, _ => rfl
  | [], _ :: _, _, _, _, _, h, _ => by simp at h
  | [], [], _ :: _, _, _, _, _, h => by simp at h
  | _ :: _, [], _, _, _, _, h, _ => by simp at h
  | _ :: _, _ :: _, [], _, _, _, _, h => by simp at h
  | k' :: ks, x :: xs, w :: zs, k, y, z, h, h2 => by
    unfold putP
    split
    · rfl
    · simp [putP_fst (k := k) (y := y) (z := z) (show ks.length = xs.length by simpa using h) (show ks.length = zs.length by simpa using h2)]
theorem putP_rep : ∀ {ks : List (List Key)} {ds : List D} {vs : List V} {k : List Key} {d : D} {v : V}, ks.length = ds.length → Reps K H ds vs → Rep K H d v → Reps K H (putP ks ds k d).2 (putP ks vs k v).2
  | [], [], vs, k, d, v, _, h, h2 => by
    have e : vs = [] := h
    subst e
    exact ⟨v, [], rfl, h2, rfl⟩
  | [], _ :: _, _, _, _, _, h, _, _ => by simp at h
  | _ :: _, [], _, _, _, _, h, _, _ => by simp at h
  | k' :: ks, x :: ds, _, k, d, v, hl, h, h2 => by
    obtain ⟨w, r, e1, h3, h4⟩ := h
    subst e1
    unfold putP
    by_cases e : k' = k
    · rw [if_pos e, if_pos e]; exact ⟨v, r, rfl, h2, h4⟩
    · rw [if_neg e, if_neg e]; exact ⟨w, _, rfl, h3, putP_rep (by simpa using hl) h4 h2⟩
theorem putK_zip : ∀ {ks : List (List Key)} {vs : List V} {k : List Key} {v : V}, ks.Nodup → ks.length = vs.length → putK (ks.zip vs) k v = (putP ks vs k v).1.zip (putP ks vs k v).2
  | [], [], k, v, _, _ => rfl
  | [], _ :: _, _, _, _, h => by simp at h
  | _ :: _, [], _, _, _, h => by simp at h
  | k' :: ks, w :: vs, k, v, hn, h => by
    have hn' := List.nodup_cons.mp hn
    unfold putP
    by_cases e : k' = k
    · rw [if_pos e]
      subst e
      unfold putK
      rw [if_pos (by simp)]
      rw [List.zip_cons_cons, List.map_cons, if_pos rfl, List.zip_cons_cons]
      congr 1
      refine (List.map_congr_left fun p hp => ?_).trans (List.map_id _)
      have : p.1 ≠ k' := fun z => hn'.1 (z ▸ (List.of_mem_zip (show (p.1, p.2) ∈ ks.zip vs from hp)).1)
      rw [if_neg this]; rfl
    · rw [if_neg e]
      have ih := putK_zip (k := k) (v := v) hn'.2 (show ks.length = vs.length by simpa using h)
      rw [List.zip_cons_cons, List.zip_cons_cons, ← ih]
      unfold putK
      rw [List.any_cons, decide_eq_false (show ¬ (k', w).1 = k from e), Bool.false_or]
      split
      · rw [List.map_cons, if_neg (show ¬ (k', w).1 = k from e)]
      · rfl
def sDPutL (i : Nat) (f g : FE) : FS := sUse f fun x r => match x.a with
  | .fz d => (match r[i]? with
    | some (.vl true (.dt ks ds)) => sUse g (fun y r => match keyO y.a with
      | some k => if ks.Nodup ∧ ks.length = ds.length ∧ ks.length < 100000 then .nx (r.set i (.vl true (.dt (putP ks ds k d).1 (putP ks ds k d).2))) else .bad
      | none => .bad) r
    | _ => .bad)
  | _ => .bad
theorem ds_dputL {j i : Nat} {o k0 : Expr} {pos' : Pos} (B : Bk c X j) (hv : PE X o (tVar i)) (h : DE c X e f) (hk : DE c X k0 g) (hs : swapsWith e (some (.Subscript o k0 pos')) pos.line X.env = pure false := by rfl) :
    DS c X (.Assign [.Subscript o k0 pos'] e pos) (sDPutL i f g) := by
  obtain ⟨t, p, s⟩ := h.ex
  obtain ⟨t2, p2, s2⟩ := hk.ex
  have hu : X.A.units + 1 < cLine := by have := B.hr.un; omega
  refine ⟨sDPut (tVar i) t2 t, ps_dput hu hv p2 p hs, fun r s' Hf H L sr D q => ?_⟩
  refine s.use sr q fun x v Hf1 H1 L1 x1 sr1 a1 n1 q1 => ?_
  have b2 := (a1.argR n1).a sr1.same0
  have x2 := x1.add n1 a1.nq
  have sr2 := sr.mono x2
  cases ex : x.a with
  | fz d =>
    simp only [ex] at q1
    rw [ex] at b2
    split at q1
    case h_2 => exact q1.elim
    rename_i ks ds hi
    obtain ⟨y0, hy0, _⟩ := sr2.slot hi
    refine ⟨y0, hy0, ?_⟩
    have q2 := q1.mono (addF_nw n1)
    refine s2.use sr2 q2 fun y u Hf3 H3 L3 x3 sr3 a3 n3 q3 => ?_
    have b4 := (a3.argR n3).a sr3.same0
    have x4 := x3.add n3 a3.nq
    have sr4 := sr2.mono x4
    split at q3
    case h_2 => exact q3.elim
    rename_i k ek
    by_cases hc : ks.Nodup ∧ ks.length = ds.length ∧ ks.length < 100000
    case neg => rw [if_neg hc] at q3; exact q3.elim
    rw [if_pos hc] at q3
    obtain ⟨b, eu, hb⟩ := keyO_rep x4.sub ek b4
    subst eu
    obtain ⟨yv, A, M, BB, h1, h2, h3, h4⟩ := sr4.put hi
    rw [hy0] at h1
    cases h1
    obtain ⟨a, vs, e1, k1, k2, k3, k4⟩ := h3
    subst e1 k4
    have lv : ks.length = vs.length := by rw [k2, Reps.length k3]
    have hd : Rep X.K (addF Hf3 H3 L3) d v := Rep.mono x4.fsame _ _ b2
    refine ⟨a, _, rfl, DPut.t k1 hb (by rw [List.length_zip, ← lv, Nat.min_self]; exact Nat.lt_of_lt_of_le hc.2.2 (by decide)), ?_⟩
    rw [putK_zip hc.1 lv]
    refine q3 _ _ _ _ (addF_nw n3) (h4 a _ _ (.vl true (.dt (putP ks ds k d).1 (putP ks ds k d).2)) [a] (by simp) k1 (Hk.ne rfl) (fun _ z => nomatch z) ⟨a, (putP ks vs k v).2, rfl, ?_, putP_len hc.2.1, putP_rep hc.2.1 k3 hd, rfl⟩ (by simp) fun x hx => .inl hx)
    rw [upd_same, putP_fst (z := v) hc.2.1 lv]
  | _ => simp only [ex] at q1; exact q1.elim
end DL
namespace DL
open PySem L2
inductive HT where | z0 | o (h : Nat) | n (l r : HT)
def HT.ins : Nat → Nat → HT → Option HT
  | _, h, .z0 => some (.o h)
  | 0, _, .o _ => none
  | 0, _, .n _ _ => none
  | f + 1, h, .o g => if h = g then none else
    if h % 2 = 0 then (if g % 2 = 0 then (HT.ins f (h / 2) (.o (g / 2))).map fun t => .n t .z0 else some (.n (.o (h / 2)) (.o (g / 2))))
    else (if g % 2 = 0 then some (.n (.o (g / 2)) (.o (h / 2))) else (HT.ins f (h / 2) (.o (g / 2))).map fun t => .n .z0 t)
  | f + 1, h, .n l r => if h % 2 = 0 then (HT.ins f (h / 2) l).map fun t => .n t r else (HT.ins f (h / 2) r).map fun t => .n l t
def HT.mem : Nat → HT → Prop
  | _, .z0 => False
  | h, .o g => h = g
  | h, .n l r => if h % 2 = 0 then HT.mem (h / 2) l else HT.mem (h / 2) r
def HT.all : List Nat → HT → Bool
  | [], _ => true
  | h :: hs, t => match HT.ins 70 h t with
    | none => false
    | some t' => HT.all hs t'
end DL
namespace PySem
open Sem (wp)
section
variable {prog : Program} {w : World} {K : Type} [DecidableEq K] {knd : HeapKind prog w K} {A : Around} {E : Value → Shared → Prop} {s : Shared}
end
end PySem
namespace DL
open PySem L2
variable {c : Cn} {X : Cx} {a b e : Expr} {es : List Expr} {f g fa fb : FE} {pos : Pos} {fs : Env → Res (List O)} {K : PySem.W.Frag} {H0 H H' Hf Hf' : Hp}
end DL
namespace DL
open PySem L2
variable {c : Cn} {X : Cx} {a b e : Expr} {es : List Expr} {f g fa fb : FE} {pos : Pos} {fs : Env → Res (List O)} {K : PySem.W.Frag} {H0 H H' Hf Hf' : Hp} {F G : FS} {st : Stmt} {sts : List Stmt} {ft : Env → Res Bool}
end DL
namespace DL
open PySem L2
variable {c : Cn} {X : Cx} {a b e : Expr} {f g fd : FE} {pos : Pos} {K : PySem.W.Frag} {H0 H H' Hf Hf' : Hp}
theorem Ext.own {p : Addr} {o o' : HO} (sub : Same Hf H) (hp : H p = none) {Hf1 H1 : Hp} (x : Ext Hf (upd H p o) Hf1 H1) (ho : ∀ φ : Hk, o ≠ φ.o) : Hf1 p = none ∧ H1 p = some o ∧ Ext Hf H Hf1 (upd H1 p o') := by
  have hpn := sub_none sub hp
  have hf1 : Hf1 p = none := by
    cases e : Hf1 p with
    | none => rfl
    | some u => exact absurd hpn (x.keep p (by rw [upd_same]; simp) (by rw [e]; simp))
  have h1 : H1 p = some o := x.same.at upd_same ho
  refine ⟨hf1, h1, ⟨fun a u h => ?_, x.fsame, fun a u e => ?_, fun a h1 h2 => ?_, fun h => (x.rows (h.new hp)).set h1 ho⟩⟩
  · have hne := ne_of_none h hp
    have h2 : upd H p o a = some u := by rw [upd_ne hne]; exact h
    rw [upd_ne hne]
    exact x.same a u h2
  · have hne : a ≠ p := fun z => by rw [z, hf1] at e; cases e
    rw [upd_ne hne]; exact x.sub a u e
  · have hne : a ≠ p := fun z => h1 (by rw [z]; exact hp)
    exact x.keep a (by rw [upd_ne hne]; exact h1) h2
end DL
namespace DL
open PySem PySem.Spec PyProof.Rows L2
variable {c : Cn} {X : Cx} {a b e : Expr} {es : List Expr} {f g fa fb : FE} {pos : Pos} {fs : Env → Res (List O)} {K : PySem.W.Frag} {H0 H H' Hf Hf' : Hp} {F G : FS}
theorem Reps.append : ∀ {ds es : List D} {vs ws : List V}, Reps K H ds vs → Reps K H es ws → Reps K H (ds ++ es) (vs ++ ws)
  | [], _, _, _, h, k => by have h' : _ = _ := h; subst h'; exact k
  | d :: ds, _, _, _, h, k => by
    obtain ⟨v, r, e, h1, h2⟩ := h
    subst e
    exact ⟨v, _, rfl, h1, Reps.append h2 k⟩
section
variable {k n : Nat} {m : Str} {tab : List (Str × (List O → Res O))} {apos : Pos} {o : Expr} {fo : FE}
end
end DL
namespace DL
open PySem L2
theorem dict_walkT {prog : Program} {w : World} {K : Type} [DecidableEq K] {knd : HeapKind prog w K} {A : Around} {E : Value → Shared → Prop} {s : Shared} {env : PySem.Env} {keys : List (Option Expr)} {values : List Expr} {pos : Pos} {Q : Value → Shared → Prop} (hu : knd.room A)
    (hall : (keys.all fun x => x.isSome) = true) (hl : keys.length = values.length) (h0 : keys ≠ []) (hlen : keys.length ≤ 15)
    (h : wpAny (model prog w) A (evalPairs (pairTrees keys values env pos)) (fun vs s₁ => ∃ ps, CarriesH knd s₁.heap vs ps ∧ Heap.DictOfH knd s₁.heap s.heap.objs.size [] ∧ ∀ (h' : Heap) (tk : Nat), Heap.DictOfH knd h' s.heap.objs.size (storedAllH [] ps) → Heap.SameBut s.heap.objs.size s₁.heap h' → Q (.ref s.heap.objs.size) { s₁ with heap := h', toks := tk }) E
      { s with heap := s.heap.push { cls := .type "dict", data := .dict #[] } }) : wpAny (model prog w) A (eval (.Dict keys values pos) env) Q E s := by
  have hn := pairTrees_length keys values env pos hall hl
  have hz := zip_pairTrees keys values env pos hall hl
  rw [arm_eval_Dict, hz, dictDisplay_pairs _ (fun he => h0 (List.length_eq_zero_iff.mp (by rw [he] at hn; simpa using hn.symm))) (by omega)]
  refine wpAny_bind (wpAny_standAt (wpAny_bind (wpAny_subDictH hu (by omega) (wpAny_mono h (fun vs s₁ h₁ => ?_) fun _ _ e => e))))
  obtain ⟨ps, hc, hm, hq⟩ := h₁
  exact ⟨ps, hc, hm, fun h' tk a b => wpAny_pure (hq h' tk a b)⟩
abbrev Tri := List Key × Addr × V
def mergeT (ks : List Tri) : List (List Key × V) := ks.foldl (fun acc x => putK acc x.1 x.2.2) []
def tDispT (trs : List (TE × TE)) : TE := fun σ H Q => ∀ p, H p = none → tPairs trs σ (upd H p (.dT [])) fun ps H2 => H2 p = some (.dT []) ∧ ∃ kvs : List Tri, ps = kvs.map (fun x => (.ref x.2.1, x.2.2)) ∧ (∀ x ∈ kvs, H2 x.2.1 = some (.tup (x.1.map kV))) ∧ kvs.length ≤ 15 ∧ Q (.ref p) (upd H2 p (.dT (mergeT kvs)))
theorem carriesT {P : Program} {w : World} {H : Hp} {h : Heap} (ok : HOk P w H h) : ∀ {kvs : List Tri} {ws : List (Value × Value)}, VV (kvs.map fun x => (V.ref x.2.1, x.2.2)) ws → (∀ x ∈ kvs, H x.2.1 = some (.tup (x.1.map kV))) →
    ∃ rs : List (List Key × Addr × Value), CarriesH (tupleKind (mixKind P w)) h ws rs ∧ Paired (fun (x : Tri) r => x.1 = r.1 ∧ x.2.1 = r.2.1 ∧ RelV x.2.2 r.2.2) kvs rs
  | [], ws, r, _ => by cases r; exact ⟨[], trivial, .nil⟩
  | x :: kvs, ws, r, hk => by
    cases r with
    | @cons _ q _ ws' hq t =>
      obtain ⟨rs, h1, h2⟩ := carriesT ok t fun y hy => hk y (List.mem_cons_of_mem _ hy)
      obtain ⟨a, b⟩ := q
      obtain ⟨r1, r2⟩ := hq
      obtain rfl : a = Value.ref x.2.1 := r1
      exact ⟨(x.1, x.2.1, b) :: rs, ⟨rfl, rfl, key_of ok (hk x List.mem_cons_self), h1⟩, .cons ⟨rfl, rfl, r2⟩ h2⟩
theorem KT_merge {H : Hp} : ∀ {kvs : List Tri} {rs : List (List Key × Addr × Value)} {ks : List (List Key × V)} {xs : List (List Key × Addr × Value)}, Paired (fun (x : Tri) r => x.1 = r.1 ∧ x.2.1 = r.2.1 ∧ RelV x.2.2 r.2.2) kvs rs → (∀ x ∈ kvs, H x.2.1 = some (.tup (x.1.map kV))) → KT H ks xs →
    KT H (kvs.foldl (fun acc x => putK acc x.1 x.2.2) ks) (rs.foldl (fun acc p => storedH acc p.1 p.2.1 p.2.2) xs)
  | [], _, ks, xs, r, _, k => by cases r; exact k
  | x :: kvs, _, ks, xs, r, hk, k => by
    cases r with
    | @cons _ q _ rs' hq t =>
      obtain ⟨r1, r2, r3⟩ := hq
      have hx := hk x List.mem_cons_self
      have k' : KT H (putK ks x.1 x.2.2) (storedH xs x.1 x.2.1 q.2.2) := KT.put k x.1 hx r3
      rw [List.foldl_cons, List.foldl_cons, ← r1, ← r2]
      exact KT_merge t (fun y hy => hk y (List.mem_cons_of_mem _ hy)) k'
theorem mergeT_len : ∀ (kvs : List Tri) (ks : List (List Key × V)), (kvs.foldl (fun acc x => putK acc x.1 x.2.2) ks).length ≤ ks.length + kvs.length
  | [], ks => Nat.le_refl _
  | x :: kvs, ks => by
    rw [List.foldl_cons, List.length_cons]
    have h1 := mergeT_len kvs (putK ks x.1 x.2.2)
    have h2 : (putK ks x.1 x.2.2).length ≤ ks.length + 1 := by
      unfold putK
      split
      · rw [List.length_map]; omega
      · rw [List.length_append]; simp
    omega
theorem pe_dispT {X : Cx} {pos : Pos} {keys : List (Option Expr)} {values : List Expr} {trs : List (TE × TE)} (hu : X.A.units < cLine) (h : PPs X pos keys values trs) (hall : (keys.all fun x => x.isSome) = true) (hl : keys.length = values.length) (h0 : keys ≠ []) (h15 : keys.length ≤ 15) : PE X (.Dict keys values pos) (tDispT trs) := by
  refine ⟨fun pins s σ H Q I q => ?_⟩
  have hn := HOk.fresh I.hok (Nat.le_refl s.heap.objs.size)
  have I1 : Inv X pins σ (upd H s.heap.objs.size (.dT [])) { s with heap := s.heap.push { cls := .type "dict", data := .dict #[] } } := Inv.laid (t' := s.toks) I (fun _ _ q => Heap.get?_push_of_some _ q) (Nat.le_refl _) (dt_empty s.heap I.big)
  refine dict_walkT (knd := tupleKind (mixKind X.prog X.w)) hu hall hl h0 h15 (thn (h.run pins _ σ _ _ I1 (q _ hn)) fun ws s2 z => ?_)
  obtain ⟨ps, H2, I2, rel, e, kvs, ep, hk, lk, q2⟩ := z
  subst ep
  obtain ⟨rs, c, pr⟩ := carriesT I2.hok rel hk
  obtain ⟨z, lo, ys, r0, dd⟩ := dt_rd I2.hok (.inl e)
  have ys0 : ys = [] := by cases r0; rfl
  subst ys0
  refine ⟨rs, c, dd, fun h' tk dd' hs => ?_⟩
  have hkt : KT H2 (mergeT kvs) (storedAllH [] rs) := KT_merge pr hk .nil
  have hkt' : KT (upd H2 s.heap.objs.size (.dT (mergeT kvs))) (mergeT kvs) (storedAllH [] rs) := KT.keeps hkt fun b ys hb => by
    have hne : b ≠ s.heap.objs.size := fun z => by rw [z, e] at hb; cases hb
    rw [upd_ne hne]; exact hb
  obtain ⟨o, es, ep, h1, h2, h3, h4, h5, h6⟩ := id dd'
  have hz : (mergeT kvs).length ≤ sizeLine := by
    have := mergeT_len kvs []
    rw [sizeLine_eq]
    unfold mergeT
    simp at this
    omega
  refine ⟨.ref s.heap.objs.size, upd H2 s.heap.objs.size (.dT (mergeT kvs)), d_write I2 (by rw [e]; trivial) hs ⟨o, h1⟩ ?_, rfl, q2⟩
  exact (show ObjOk X.prog X.w _ _ _ (.dT (mergeT kvs)) from ⟨hz, lo, _, hkt', o, es, ep, h1, h2, h3, h4, h6⟩)
variable {c : Cn} {X : Cx} {a b e : Expr} {es : List Expr} {f g fa fb : FE} {pos : Pos} {K : PySem.W.Frag} {H0 H H' Hf Hf' : Hp}
def dspL : List (FE × FE) → Env → Option (List (List Key × D))
  | [], _ => some []
  | p :: ps, r => match p.1 r with
    | .ok y => (match p.2 r with
      | .ok x => (match keyO y.a, x.a with
        | some k, .fz d => (dspL ps r).map ((k, d) :: ·)
        | _, _ => none)
      | _ => none)
    | _ => none
def eDspT (ps : List (FE × FE)) : FE := fun r => match dspL ps r with
  | some kds => if (kds.map (·.1)).Nodup ∧ kds.length ≤ 15 then .ok (.nw (.dt (kds.map (·.1)) (kds.map (·.2)))) else .bad
  | none => .bad
def SoPs (c : Cn) (K : PySem.W.Frag) (trs : List (TE × TE)) (fs : List (FE × FE)) : Prop := ∀ (r : Env) (s : St) (Hf H : Hp) (L : List Addr), c.SR K r s Hf H L → ∀ kds, dspL fs r = some kds → ∀ Q : List (V × V) → Hp → Prop,
  (∀ (Hf2 H2 : Hp) (kvs : List Tri), Ext Hf H Hf2 H2 → kvs.map (·.1) = kds.map (·.1) → (∀ x ∈ kvs, H2 x.2.1 = some (.tup (x.1.map kV))) → Reps K Hf2 (kds.map (·.2)) (kvs.map (·.2.2)) → Q (kvs.map fun x => (.ref x.2.1, x.2.2)) H2) → tPairs trs s H Q
structure DPs (c : Cn) (X : Cx) (pos : Pos) (keys : List (Option Expr)) (values : List Expr) (fs : List (FE × FE)) : Prop where
  ex : ∃ trs, PPs X pos keys values trs ∧ SoPs c X.K trs fs
theorem dps_nil : DPs c X pos [] [] [] := ⟨[], pps_nil, fun r s Hf H L sr kds e Q q => by
  cases e
  exact q Hf H [] (Ext.refl sr.sub) rfl (fun _ h => nomatch h) rfl⟩
theorem dps_cons {k v : Expr} {ks : List (Option Expr)} {vs : List Expr} {fs : List (FE × FE)} (hk : DE c X k g) (hv : DE c X v f) (h : DPs c X pos ks vs fs) : DPs c X pos (some k :: ks) (v :: vs) ((g, f) :: fs) := by
  obtain ⟨tk, pk, sk⟩ := hk.ex
  obtain ⟨tv, pv, sv⟩ := hv.ex
  obtain ⟨trs, ps, ss⟩ := h.ex
  refine ⟨_, pps_cons pk pv ps, fun r s Hf H L sr kds e Q q => ?_⟩
  show tk s H fun x H1 => tv s H1 fun y H2 => tPairs trs s H2 fun ps H3 => Q ((x, y) :: ps) H3
  unfold dspL at e
  cases eg : g r with
  | bad => simp only [eg] at e; cases e
  | exc z => simp only [eg] at e; cases e
  | ok y =>
    cases ef : f r with
    | bad => simp only [eg, ef] at e; cases e
    | exc z => simp only [eg, ef] at e; cases e
    | ok x =>
      simp only [eg, ef] at e
      split at e
      case h_2 => cases e
      rename_i k0 d ek ex
      cases el : dspL fs r with
      | none => rw [el] at e; cases e
      | some l =>
        rw [el] at e
        cases e
        refine sk.runO sr eg fun u Hf1 H1 x1 sr1 a1 => ?_
        have b1 := a1.a sr1.same0
        obtain ⟨b, eu, hb⟩ := keyO_rep sr1.sub ek b1
        subst eu
        refine sv.runO sr1 ef fun w Hf2 H2 x2 sr2 a2 => ?_
        have b2 := a2.a sr2.same0
        rw [ex] at b2
        refine ss r s Hf2 H2 L sr2 l el _ fun Hf3 H3 kvs x3 e1 e2 e3 => ?_
        refine q Hf3 H3 ((k0, b, w) :: kvs) (x1.trans (x2.trans x3)) (by simp [e1]) (fun z hz => ?_) ⟨w, _, rfl, Rep.mono x3.fsame _ _ b2, e3⟩
        rcases List.mem_cons.mp hz with e | hz
        · subst e
          exact x3.same.at (x2.same.at hb (Hk.ne rfl)) (Hk.ne rfl)
        · exact e2 z hz
theorem mergeT_nd : ∀ (kvs : List Tri) (ks : List (List Key × V)), (ks.map (·.1) ++ kvs.map (·.1)).Nodup → kvs.foldl (fun acc x => putK acc x.1 x.2.2) ks = ks ++ kvs.map fun x => (x.1, x.2.2)
  | [], ks, _ => by simp
  | x :: kvs, ks, h => by
    have hx : ¬ x.1 ∈ ks.map (·.1) := fun z => by
      have := (List.nodup_append.mp h).2.2 x.1 z x.1 (by simp)
      exact this rfl
    have e : putK ks x.1 x.2.2 = ks ++ [(x.1, x.2.2)] := putK_new _ (by
      have : ∀ l : List (List Key × V), ¬ x.1 ∈ l.map (·.1) → valV l x.1 = none := fun l => by
        induction l with
        | nil => intro _; rfl
        | cons p l ih =>
          intro hn
          rw [valV_neg (fun z => hn (by simp [z]))]
          exact ih fun z => hn (by simp at z ⊢; exact .inr z)
      exact this ks hx)
    rw [List.foldl_cons, e, mergeT_nd kvs _ (by simpa using h)]
    simp
theorem de_dspT {j : Nat} {keys : List (Option Expr)} {values : List Expr} {fs : List (FE × FE)} (B : Bk c X j) (h : DPs c X pos keys values fs) (hall : (keys.all fun x => x.isSome) = true := by rfl) (hl : keys.length = values.length := by rfl) (h0 : keys ≠ [] := by simp) (h15 : keys.length ≤ 15 := by decide) : DE c X (.Dict keys values pos) (eDspT fs) := by
  obtain ⟨trs, pp, ss⟩ := h.ex
  have hu : X.A.units < cLine := by have := B.hr.un; omega
  refine ⟨tDispT trs, pe_dispT hu pp hall hl h0 h15, fun r s Hf H L sr Q q p hp => ?_⟩
  have x0 : Ext Hf H Hf (upd H p (.dT [])) := Ext.new sr.sub hp
  have sr0 := sr.mono x0
  unfold eDspT at q
  cases e : dspL fs r with
  | none => rw [e] at q; exact q.elim
  | some kds =>
    simp only [e] at q
    by_cases hn : (kds.map (·.1)).Nodup ∧ kds.length ≤ 15
    case neg => rw [if_neg hn] at q; exact q.elim
    rw [if_pos hn] at q
    refine ss r s _ _ L sr0 kds e _ fun Hf2 H2 kvs x2 e1 e2 e3 => ?_
    obtain ⟨hf2, hp2, xx⟩ := Ext.own (o' := .dT (mergeT kvs)) sr.sub hp x2 (Hk.ne rfl)
    have em : mergeT kvs = (kds.map (·.1)).zip (kvs.map (·.2.2)) := by
      unfold mergeT
      rw [mergeT_nd kvs [] (by rw [e1]; simpa using hn.1), ← e1]
      simp [List.zip_map']
    have hlen : kvs.length ≤ 15 := by
      have := congrArg List.length e1
      simp at this
      omega
    refine ⟨hp2, kvs, rfl, e2, hlen, ?_⟩
    rw [em] at xx ⊢
    exact q (.ref p) Hf2 _ [p] xx ⟨p, _, rfl, upd_same, by simp, e3, rfl⟩ ⟨by simp, fun x hx => by
      have e : x = p := by simpa using hx
      subst e
      exact ⟨hp, hf2, by rw [upd_same]; simp⟩⟩
end DL
namespace DL
open PySem L2
variable {c : Cn} {X : Cx} {a b e : Expr} {es : List Expr} {f g fd : FE} {pos : Pos} {K : PySem.W.Frag} {H0 H H' Hf Hf' : Hp}
variable {sts : List Stmt} {F G : FS}
end DL
namespace DL
open PySem L2
variable {c : Cn} {X : Cx} {a b e : Expr} {es : List Expr} {f g fd : FE} {pos : Pos} {K : PySem.W.Frag} {H0 H H' Hf Hf' : Hp}
variable {c : Cn} {X : Cx} {a b e : Expr} {es : List Expr} {f g fd fa fb : FE} {pos : Pos} {K : PySem.W.Frag} {H0 H H' Hf Hf' : Hp}
variable {k : Nat}
end DL
namespace DL
open PySem L2
def iKeysT (td : TE) : TI := fun σ H R => td σ H fun x H1 => ∃ d o kvs, x = .ref d ∧ H1 d = some (.frz o (.dT kvs)) ∧ R (Itkt d o kvs) H1
theorem pi_keysT {X : Cx} {tg e : Expr} {td : TE} {apos cpos : Pos} (he : PE X e td) (hbase : attributeBase e "keys" X.env (eval e X.env) = eval e X.env := by rfl) (hline : (apos.endLine == cpos.line) = true := by rfl) :
    PI X tg (.Call (.Attribute e "keys" apos) [] [] cpos) (iKeysT td) := by
  refine ⟨fun pins s σ H R I h => ?_⟩
  refine wpAny_Call_method (T := "dict") (id := "dict.keys") hbase rfl hline F.plainAttrs_dict F.slot_dict_keys F.type_dict_keys (thn (he.run pins s σ H _ I h) fun u s1 ⟨x, H1, I1, rx, d, o, kvs, ex, hd, q⟩ => ?_)
  subst ex
  obtain rfl : u = Value.ref d := rx
  obtain ⟨hs, hgd, hx, es, ep, hdt, hsz, ent⟩ := Inv_frzTv I1 hd
  have hraw : s1.heap.DictRaw d es ep := ⟨o, hgd, hx, hdt⟩
  refine ⟨hraw.typeIs, fun a e => by cases e; exact ⟨o, hgd, hx.2.1⟩, ?_⟩
  have I2 : Inv X pins σ H1 { s1 with heap := s1.heap.push { cls := .type "dict_keys", data := .fields #[.ref d] } } := I1.kept (t' := s1.toks) fun b ob q => Heap.get?_push_of_some _ q
  have fin : wpAny (model X.prog X.w) X.A (pyIter (.ref s1.heap.objs.size)) (PIE X pins σ tg R) X.xe { s1 with heap := s1.heap.push { cls := .type "dict_keys", data := .fields #[.ref d] } } := by
    refine wpAny_pyIter_keys_raw (d := d) (es := es) (ep := ep) ⟨_, Heap.get?_push_size _ rfl, rfl, rfl⟩ (hraw.push _) (pi_one (tk := s1.toks) I2 _ (turn_keysT _ hdt) ?_ q)
    rw [← hsz]
    exact ⟨_, Heap.get?_push_size _ rfl, rfl, rfl⟩
  show wpAny _ _ (callWith cpos (.builtin "dict.keys") [.ref d] [] []) _ X.xe s1
  exact method_meetsIn F.slot_dict_keys F.entry_dict_keys rfl (PySem.evalArgs_none ⟨rfl, hraw.typeIs, F.args_dict_keys_1 _, _, meets_dict_keys_raw d hs, ⟨⟨es, ep, hraw⟩, fin⟩⟩)
variable {c : Cn} {X : Cx} {a b e : Expr} {es : List Expr} {f g fa fb : FE} {pos : Pos} {fs : Env → Res (List O)} {K : PySem.W.Frag} {H0 H H' Hf Hf' : Hp} {F G : FS} {st : Stmt} {sts : List Stmt} {ft : Env → Res Bool}
def sWalkI (i : Nat) (Wk : List (List Key × D) → FS) : FS := fun r => match r[i]? with
  | some (.vl w o) => (match dI w o with
    | some ps => Wk ps r
    | none => .bad)
  | _ => .bad
def CoreW (c2 : Cn) (K : PySem.W.Frag) (i : Nat) (tI : TS) (Wk : List (List Key × D) → FS) : Prop := ∀ {ps : List (List Key × D)} {dd : Addr} {ob : Obj} {ws : List V} {r : Env} {s : St} {L : List Addr} {Hf H : Hp} {D : Ends}, c2.SR K r s Hf H L → s[i]? = some (some (.ref dd)) →
  (∀ Hf2 H2, Same Hf Hf2 → Same Hf2 H2 → Sm c2.H0 H2 → H2 dd = some (.frz ob (.dT ((ps.map (·.1)).zip ws)))) → Reps K Hf (ps.map (·.2)) ws → PostS c2 K Hf D (Wk ps r) → tI D s H
theorem so_walkI {i : Nat} {tI : TS} {Wk : List (List Key × D) → FS} (core : ∀ c2 : Cn, (c2.W = c.W ∨ c2.W = fun _ _ _ _ => False) → CoreW c2 K i tI Wk) (exc : ∀ ps r e r', Wk ps r ≠ .exc e r') : SoS c K (fun D σ H => tI D σ H ∨ tLock tI D σ H) (sWalkI i Wk) := fun r s Hf H L sr D q => by
  unfold sWalkI at q
  split at q
  case h_2 => exact q.elim
  rename_i w o hi
  split at q
  case h_2 => exact q.elim
  rename_i ps hps
  obtain ⟨v, hv, hrep⟩ := sr.slot hi
  obtain ⟨dd, ws, rfl, hw, hstate⟩ : ∃ dd ws, v = .ref dd ∧ Reps K Hf (ps.map (·.2)) ws ∧ (Rd c.H0 dd (.dT ((ps.map (·.1)).zip ws)) ∨ Rd Hf dd (.dT ((ps.map (·.1)).zip ws))) := by
    obtain ⟨y, _, M, _, hy, _, hs, _⟩ := sr.env.at hi
    rw [hv] at hy
    cases hy
    cases o with
    | fz d =>
      cases d with
      | dct ks xs =>
        simp only [dI] at hps
        split at hps
        · rename_i hl
          cases hps
          obtain ⟨a, vs, e1, h1, h2, h3⟩ := hrep
          exact ⟨a, vs, e1, by rw [zip_snd' hl]; exact h3, .inr (by rw [zip_fst' hl]; exact h1)⟩
        · cases hps
      | _ => cases hps
    | dt ks xs =>
      simp only [dI] at hps
      split at hps
      · rename_i hl
        cases hps
        cases hl.1
        obtain ⟨⟨a, vs, e1, h1, h2, h3⟩, _⟩ := hs
        exact ⟨a, vs, e1, by rw [zip_snd' hl.2]; exact h3, .inl (by rw [zip_fst' hl.2]; exact h1)⟩
      · cases hps
    | _ => cases hps
  generalize hkv : (ps.map (·.1)).zip ws = kvs at hstate
  have hdL : dd ∉ L := fun z => by
    rcases hstate with (h | ⟨_, h⟩) | (h | ⟨_, h⟩)
    · rw [(sr.fr dd z).2] at h; cases h
    · rw [(sr.fr dd z).2] at h; cases h
    · rw [(sr.fr dd z).1] at h; cases h
    · rw [(sr.fr dd z).1] at h; cases h
  have hcase : (∃ ob, (c.H0 dd = some (.frz ob (.dT kvs)) ∨ Hf dd = some (.frz ob (.dT kvs)))) ∨ ((c.H0 dd = some (.dT kvs) ∨ Hf dd = some (.dT kvs)) ∧ H dd = some (.dT kvs)) := by
    rcases hstate with (h | ⟨ob, h⟩) | (h | ⟨ob, h⟩)
    · exact .inr ⟨.inl h, sr.same0.dT h⟩
    · exact .inl ⟨ob, .inl h⟩
    · exact .inr ⟨.inr h, sr.sub _ _ h⟩
    · exact .inl ⟨ob, .inr h⟩
  rcases hcase with ⟨ob, hl⟩ | ⟨hu, hd⟩
  · left
    refine core c (.inl rfl) sr hv (ob := ob) (fun Hf2 H2 s1 s2 s3 => ?_) hw q
    rw [hkv]
    rcases hl with h | h
    · exact s3.at h (Hk.ne rfl)
    · exact s2 _ _ (s1 _ _ h)
  · right
    refine ⟨dd, .dT kvs, hd, True.intro, fun ob => ?_⟩
    have hDH : ∀ o, H dd = some o → isDT kvs o := fun o h => by rw [hd] at h; cases h; exact .inl rfl
    have wDT : isDT kvs (.frz ob (.dT kvs)) := .inr ⟨ob, rfl⟩
    have uDT : isDT kvs (.dT kvs) := .inl rfl
    have sr' := SR.pt sr hDH wDT hdL
    have dF : ∀ o, Hf dd = some o → o = .dT kvs := fun o h => by
      have := sr.sub _ _ h
      rw [hd] at this; exact (Option.some.inj this).symm
    have d0 : ∀ o, c.H0 dd = some o → o = .dT kvs := fun o h => by
      rcases sr.same0 dd o h with h1 | ⟨_, o', h1, k1⟩
      · rw [hd] at h1; exact (Option.some.inj h1).symm
      · rw [hd] at h1
        obtain ⟨φ, e⟩ := isKn_ext k1
        rw [← Option.some.inj h1] at e; cases φ <;> cases e
    have dF0 : ∀ o, c.Hf0 dd = some o → o = .dT kvs := fun o h => dF o (sr.ext.fsame _ _ h)
    have orn : ∀ {Z : Hp}, (∀ o, Z dd = some o → o = .dT kvs) → Z dd = none ∨ Z dd = some (.dT kvs) := fun {Z} h => by
      cases z : Z dd with
      | none => exact .inl rfl
      | some o => exact .inr (by rw [h o z])
    have hst : ∀ Hf2 H2, Same (pt dd (.frz ob (.dT kvs)) Hf) Hf2 → Same Hf2 H2 → Sm (pt dd (.frz ob (.dT kvs)) c.H0) H2 → H2 dd = some (.frz ob (.dT kvs)) := fun Hf2 H2 s1 s2 s3 => by
      rcases hu with h | h
      · exact s3.at (pt_some h) (Hk.ne rfl)
      · exact s2 _ _ (s1 _ _ (pt_some h))
    have hnL : ∀ {Hf2 : Hp} {L2 : List Addr}, Same (pt dd (.frz ob (.dT kvs)) Hf) Hf2 → (∀ p ∈ L2, Hf2 p = none ∧ pt dd (.frz ob (.dT kvs)) c.H0 p = none) → dd ∉ L2 := fun {Hf2 L2} s1 s2 z => by
      rcases hu with h | h
      · have := (s2 dd z).2; rw [pt_some h] at this; cases this
      · have := (s2 dd z).1; rw [s1 _ _ (pt_some h)] at this; cases this
    have wf := tw_pt (w := .frz ob (.dT kvs)) (H := Hf) (d := dd) (kvs := kvs) (fun o h => .inl (dF o h)) wDT
    rw [← pt_upd hd]
    have key := core ⟨pt dd (.frz ob (.dT kvs)) c.Hf0, pt dd (.frz ob (.dT kvs)) c.H0, fun _ _ _ _ => False⟩ (.inr rfl) (ps := ps) (dd := dd) (ob := ob) (ws := ws) (r := r) (s := s) (L := L)
      (D := ⟨fun σ' H' => H' dd = some (.frz ob (.dT kvs)) ∧ D.nx σ' (upd H' dd (.dT kvs)), fun v H' => H' dd = some (.frz ob (.dT kvs)) ∧ D.rt v (upd H' dd (.dT kvs)), fun σ' H' => H' dd = some (.frz ob (.dT kvs)) ∧ D.bk σ' (upd H' dd (.dT kvs)), fun σ' H' => H' dd = some (.frz ob (.dT kvs)) ∧ D.ct σ' (upd H' dd (.dT kvs))⟩)
      sr' hv (by rw [hkv]; exact hst) (Reps.tw wf.1 _ _ hw)
    refine key ?_
    have go : ∀ {r2 : Env} {s2 : St} {Hf2 H2 : Hp} {L2 : List Addr}, Same (pt dd (.frz ob (.dT kvs)) Hf) Hf2 → SR K (pt dd (.frz ob (.dT kvs)) c.Hf0) (pt dd (.frz ob (.dT kvs)) c.H0) r2 s2 Hf2 H2 L2 →
        H2 dd = some (.frz ob (.dT kvs)) ∧ Same Hf (pt dd (.dT kvs) Hf2) ∧ c.SR K r2 s2 (pt dd (.dT kvs) Hf2) (upd H2 dd (.dT kvs)) L2 := fun {r2 s2 Hf2 H2 L2} f2 z => by
      have h1 := hst Hf2 H2 f2 z.sub z.ext.same
      have z2 := SR.pt (d := dd) (w := .dT kvs) (kvs := kvs) z (fun o h => by rw [h1] at h; cases h; exact wDT) uDT (hnL f2 z.fr)
      rw [pt_pt (orn dF0), pt_pt (orn d0), pt_upd h1] at z2
      have f3 := pt_same (d := dd) (w := .dT kvs) f2
      rw [pt_pt (orn dF)] at f3
      exact ⟨h1, f3, z2⟩
    cases eF : Wk ps r with
    | nx r2 =>
      rw [eF] at q
      intro s2 Hf2 H2 L2 f2 z
      obtain ⟨h1, f3, z2⟩ := go f2 z
      exact ⟨h1, q _ _ _ _ f3 z2⟩
    | bk r2 =>
      rw [eF] at q
      intro s2 Hf2 H2 L2 f2 z
      obtain ⟨h1, f3, z2⟩ := go f2 z
      exact ⟨h1, q _ _ _ _ f3 z2⟩
    | ct r2 =>
      rw [eF] at q
      intro s2 Hf2 H2 L2 f2 z
      obtain ⟨h1, f3, z2⟩ := go f2 z
      exact ⟨h1, q _ _ _ _ f3 z2⟩
    | ret o =>
      rw [eF] at q
      intro v2 Hf2 H2 L2 f2 x2 h2 n2
      have h1 := hst Hf2 H2 f2 x2.sub x2.same
      have hn := hnL (L2 := L2) f2 fun p hp => ⟨(n2.fr p hp).2.1, (n2.fr p hp).1⟩
      have wDF2 : ∀ o, Hf2 dd = some o → isDT kvs o := fun o h => by
        have := x2.sub _ _ h
        rw [h1] at this; rw [← Option.some.inj this]; exact wDT
      have w2 := tw_pt (w := .dT kvs) (H := Hf2) (d := dd) (kvs := kvs) wDF2 uDT
      have f3 := pt_same (d := dd) (w := .dT kvs) f2
      rw [pt_pt (orn dF)] at f3
      refine ⟨h1, ?_⟩
      rw [← pt_upd h1]
      refine q v2 (pt dd (.dT kvs) Hf2) _ L2 f3 ⟨?_, ?_, pt_same x2.sub, fun p a1 a2 => ?_, fun hr => ?_⟩ (RepO.tw w2.1 o v2 L2 (fun p hp u h => by rw [pt_ne (fun e => by subst e; exact hn hp)]; exact h) h2) ⟨n2.nd, fun p hp => ?_⟩
      · have := pt_sm (d := dd) (w := .dT kvs) x2.same
        rwa [pt_pt (orn d0)] at this
      · have := pt_same (d := dd) (w := .dT kvs) x2.fsame
        rwa [pt_pt (orn dF0)] at this
      · exact fun z => x2.keep p (fun y => a1 (pt_nn.mp y)) (fun y => a2 (pt_nn.mpr y)) (pt_nn.mpr z)
      · have r1 := hr.tw (tw_pt (fun o h => .inl (dF0 o h)) wDT).1 (tw_pt (fun o h => .inl (dF0 o h)) wDT).2 (tw_pt (fun o h => .inl (d0 o h)) wDT).1
        exact (x2.rows r1).tw w2.1 w2.2 (tw_pt (fun o h => by rw [h1] at h; cases h; exact wDT) uDT).1
      · obtain ⟨a1, a2, a3⟩ := n2.fr p hp
        exact ⟨pt_nn.mp a1, pt_nn.mpr a2, fun z => a3 (pt_nn.mp z)⟩
    | exc e' r2 => exact absurd eF (exc ps r e' r2)
    | bad => rw [eF] at q; exact q.elim
def forDk (m : Nat) (F : FS) : List (List Key × D) → FS
  | [], r => .nx r
  | p :: ps, r => if m < r.length then (match F (r.set m (.tq p.1)) with
    | .nx r' => forDk m F ps r'
    | .ct r' => forDk m F ps r'
    | .bk r' => .nx r'
    | .ret o => .ret o
    | _ => .bad) else .bad
theorem forDk_exc {m : Nat} : ∀ (ps : List (List Key × D)) (r : Env) (e : Ec) (r' : Env), forDk m F ps r ≠ .exc e r'
  | [], r, e, r' => fun z => by cases z
  | p :: ps, r, e, r' => by
    unfold forDk
    split
    · split
      · exact forDk_exc ps _ e r'
      · exact forDk_exc ps _ e r'
      · exact fun z => by cases z
      · exact fun z => by cases z
      · exact fun z => by cases z
    · exact fun z => by cases z
theorem core_forDk {i m : Nat} {tb : TS} (hb : SoS c K tb F) : CoreW c K i (tFor (iKeysT (tVar i)) (gName m) tb) (forDk m F) := fun {ps dd ob ws r s L Hf H D} sr hi hst hr q => by
  have hl : ((ps.map (·.1)).zip ws).length = ps.length := by
    have := Reps.length hr
    simp only [List.length_map] at this
    rw [List.length_zip, List.length_map, this, Nat.min_self]
  refine ⟨.ref dd, hi, dd, ob, _, rfl, hst Hf H (Same.refl _) sr.sub sr.same0, ?_⟩
  refine ⟨fun j w s' H' => w = ps.length - j ∧ j ≤ ps.length ∧ ∃ r' Hf' L', c.SR K r' s' Hf' H' L' ∧ Same Hf Hf' ∧ PostS c K Hf' D (forDk m F (ps.drop j) r'), ⟨ps.length, by simp, Nat.zero_le _, r, Hf, L, sr, Same.refl _, by simpa using q⟩, ?_⟩
  rintro j w s1 H1 ⟨rfl, hle, r1, Hf1, L1, sr1, f1, q1⟩
  have hd := hst Hf1 H1 f1 sr1.sub sr1.same0
  by_cases hlt : j < ps.length
  · rw [List.drop_eq_getElem_cons hlt] at q1
    refine .inr ⟨⟨hd, by rw [hl]; exact hlt⟩, fun s' H' => ∃ r' Hf' L', c.SR K r' s' Hf' H' L' ∧ Same Hf Hf' ∧ PostS c K Hf' D (forDk m F (ps.drop (j + 1)) r'), fun s' H' ⟨r', Hf', L', h⟩ => ⟨ps.length - (j + 1), by omega, rfl, hlt, r', Hf', L', h⟩, fun x H3 hy => ?_⟩
    obtain ⟨e3, k, v, qa, hkv, ex, hq⟩ := hy
    subst ex e3
    have hkv2 : k = ps[j].1 := by
      rw [List.getElem?_eq_getElem (by rw [hl]; exact hlt)] at hkv
      have := Option.some.inj hkv
      simp only [List.getElem_zip, List.getElem_map] at this
      exact (congrArg Prod.fst this).symm
    subst hkv2
    unfold forDk at q1
    by_cases hc : m < r1.length
    case neg => rw [if_neg hc] at q1; exact q1.elim
    rw [if_pos hc] at q1
    obtain ⟨L5, sr5⟩ := sr1.storeQ hq hc
    refine hb _ _ _ _ _ sr5 _ ?_
    cases eF : F (r1.set m (.tq ps[j].1)) with
    | nx r2 =>
      rw [eF] at q1
      exact fun s2 Hf2 H2 L2 f2 z => ⟨_, Hf2, L2, z, f1.trans f2, q1.mono f2⟩
    | ct r2 =>
      rw [eF] at q1
      exact fun s2 Hf2 H2 L2 f2 z => ⟨_, Hf2, L2, z, f1.trans f2, q1.mono f2⟩
    | bk r2 =>
      rw [eF] at q1
      exact q1
    | ret o =>
      rw [eF] at q1
      exact q1
    | exc e' r2 => rw [eF] at q1; exact q1.elim
    | bad => rw [eF] at q1; exact q1.elim
  · have e : j = ps.length := by omega
    subst e
    rw [List.drop_length] at q1
    exact .inl ⟨⟨hd, by rw [hl]; exact Nat.le_refl _⟩, q1 s1 Hf1 H1 L1 (Same.refl _) sr1⟩
def sForDK (i m : Nat) (F : FS) : FS := sWalkI i (forDk m F)
theorem ds_forDK {k i m : Nat} {xm : Str} {p1 apos cpos : Pos} (B : Bk c X k) (hN : X.N.Nodup) (hi : PE X e (tVar i)) (hm : X.N[m]? = some xm) (lm : Loc X.env.scope xm)
    (fm : X.fn xm = true ∨ X.env.scope.names.lookup xm = some .local) (hb : ∀ c2 : Cn, Bk c2 X k → DSs c2 X sts F)
    (hbase : attributeBase e "keys" X.env (eval e X.env) = eval e X.env := by rfl) (hline : (apos.endLine == cpos.line) = true := by rfl)
    (hs : ∀ x, foldedSetIterable (.Call (.Attribute e "keys" apos) [] [] cpos) X.env x = pure x := by intro _; rfl) :
    DS c X (.For (.Name xm p1) (.Call (.Attribute e "keys" apos) [] [] cpos) sts [] pos) (sForDK i m F) := by
  have P0 : PS X (.For (.Name xm p1) (.Call (.Attribute e "keys" apos) [] [] cpos) sts [] pos) (tFor (iKeysT (tVar i)) (gName m) (tAllS X sts)) :=
    ps_for B.po B.calm (pi_keysT hi hbase hline) (pg_name hN hm lm fm) pss_all hs
  have P1 := ps_lock P0
  refine ⟨_, ⟨fun pins s σ H D I h => ?_⟩, so_walkI (c := c) (K := X.K) (i := i) (tI := tFor (iKeysT (tVar i)) (gName m) (tAllS X sts)) (Wk := forDk m F) (fun c2 h => core_forDk (so_all (hb c2 ?_))) forDk_exc⟩
  · rcases h with h | h
    · exact P0.run pins s σ H D I h
    · exact P1.run pins s σ H D I h
  · rcases h with h | h
    · exact ⟨B.hr, by rw [h]; exact B.tk, B.po, B.calm⟩
    · exact ⟨B.hr, by rw [h]; exact fun u s' ⟨a, B', sI, pins, σ, H, cls, d, e, I, nb, up, sky, na, os, ag, w⟩ => w.elim, B.po, B.calm⟩
end DL
namespace DL
open PySem L2
variable {c : Cn} {X : Cx} {a b e : Expr} {es : List Expr} {f g fa fb : FE} {pos : Pos} {fs : Env → Res (List O)} {K : PySem.W.Frag} {H0 H H' Hf Hf' : Hp} {F G : FS} {st : Stmt} {sts : List Stmt} {ft : Env → Res Bool}
end DL
section
open PySem PySem.Spec PyProof.Rows L2 DL
namespace Row
def top (i : Nat) : Stmt := PySem.Challenge.pw_sumcraft_k55_whole_frames_hold.main.body.getD i (.Pass ⟨0, 0, 0, 0⟩)
def csub (s : Stmt) (j : Nat) : Stmt := match s with
  | .ClassDef _ _ _ b _ _ _ _ _ _ _ => b.getD j (.Pass ⟨0, 0, 0, 0⟩)
  | _ => .Pass ⟨0, 0, 0, 0⟩
abbrev FnP (K : PySem.W.Frag) (x : Str) (st : Stmt) (f : Addr) (fd : FuncData) : Prop := FunD K x x (defArgs st) (defBody st) (defScope st) [] [] f fd
abbrev s__law_mixed : Stmt := top 34
abbrev N__law_mixed : List Str := ["_law_cell", "_law_k", "_law_number_here", "_law_time"]
theorem sc__law_mixed : FnScope N__law_mixed ["_law_cell", "_law_k"] (defScope s__law_mixed) := ⟨rfl, rfl, rfl, by decide +kernel, rfl, by decide +kernel, by decide +kernel⟩
abbrev s__law_cell_at : Stmt := top 30
abbrev N__law_cell_at : List Str := ["_law_script", "_law_k"]
theorem sc__law_cell_at : FnScope N__law_cell_at ["_law_script", "_law_k"] (defScope s__law_cell_at) := ⟨rfl, rfl, rfl, by decide +kernel, rfl, by decide +kernel, by decide +kernel⟩
abbrev s_Choose___init__ : Stmt := csub (top 19) 0
abbrev N_Choose___init__ : List Str := ["self", "high", "low"]
theorem sc_Choose___init__ : FnScope N_Choose___init__ ["self", "high", "low"] (defScope s_Choose___init__) := ⟨rfl, rfl, rfl, by decide +kernel, rfl, by decide +kernel, by decide +kernel⟩
abbrev s_Weight___init__ : Stmt := csub (top 20) 0
abbrev N_Weight___init__ : List Str := ["self", "form"]
theorem sc_Weight___init__ : FnScope N_Weight___init__ ["self", "form"] (defScope s_Weight___init__) := ⟨rfl, rfl, rfl, by decide +kernel, rfl, by decide +kernel, by decide +kernel⟩
abbrev s_Power___init__ : Stmt := csub (top 21) 0
abbrev N_Power___init__ : List Str := ["self", "fraction"]
theorem sc_Power___init__ : FnScope N_Power___init__ ["self", "fraction"] (defScope s_Power___init__) := ⟨rfl, rfl, rfl, by decide +kernel, rfl, by decide +kernel, by decide +kernel⟩
abbrev s_Growth___init__ : Stmt := csub (top 22) 0
abbrev N_Growth___init__ : List Str := ["self", "fraction"]
theorem sc_Growth___init__ : FnScope N_Growth___init__ ["self", "fraction"] (defScope s_Growth___init__) := ⟨rfl, rfl, rfl, by decide +kernel, rfl, by decide +kernel, by decide +kernel⟩
abbrev s_within : Stmt := top 25
abbrev N_within : List Str := ["form", "least", "greatest", "last"]
theorem sc_within : FnScope N_within ["form", "least", "greatest", "last"] (defScope s_within) := ⟨rfl, rfl, rfl, by decide +kernel, rfl, by decide +kernel, by decide +kernel⟩
abbrev s_Part_up : Stmt := csub (top 18) 2
abbrev N_Part_up : List Str := ["self", "far"]
theorem sc_Part_up : FnScope N_Part_up ["self", "far"] (defScope s_Part_up) := ⟨rfl, rfl, rfl, by decide +kernel, rfl, by decide +kernel, by decide +kernel⟩
abbrev s_Power_up : Stmt := csub (top 21) 2
abbrev N_Power_up : List Str := ["self", "far"]
theorem sc_Power_up : FnScope N_Power_up ["self", "far"] (defScope s_Power_up) := ⟨rfl, rfl, rfl, by decide +kernel, rfl, by decide +kernel, by decide +kernel⟩
abbrev s_Part_down : Stmt := csub (top 18) 3
abbrev N_Part_down : List Str := ["self", "far"]
theorem sc_Part_down : FnScope N_Part_down ["self", "far"] (defScope s_Part_down) := ⟨rfl, rfl, rfl, by decide +kernel, rfl, by decide +kernel, by decide +kernel⟩
abbrev s_Power_down : Stmt := csub (top 21) 3
abbrev N_Power_down : List Str := ["self", "far"]
theorem sc_Power_down : FnScope N_Power_down ["self", "far"] (defScope s_Power_down) := ⟨rfl, rfl, rfl, by decide +kernel, rfl, by decide +kernel, by decide +kernel⟩
abbrev s_Part_step : Stmt := csub (top 18) 1
abbrev N_Part_step : List Str := ["self", "i", "far"]
theorem sc_Part_step : FnScope N_Part_step ["self", "i", "far"] (defScope s_Part_step) := ⟨rfl, rfl, rfl, by decide +kernel, rfl, by decide +kernel, by decide +kernel⟩
abbrev s_raised : Stmt := top 16
abbrev N_raised : List Str := ["fraction", "many", "top", "bottom", "time"]
theorem sc_raised : FnScope N_raised ["fraction", "many"] (defScope s_raised) := ⟨rfl, rfl, rfl, by decide +kernel, rfl, by decide +kernel, by decide +kernel⟩
abbrev s_without_noughts : Stmt := top 6
abbrev N_without_noughts : List Str := ["one", "found", "powers", "number"]
theorem sc_without_noughts : FnScope N_without_noughts ["one"] (defScope s_without_noughts) := ⟨rfl, rfl, rfl, by decide +kernel, rfl, by decide +kernel, by decide +kernel⟩
abbrev s_Choose_raised_lows : Stmt := csub (top 19) 1
abbrev N_Choose_raised_lows : List Str := ["self", "far", "low"]
theorem sc_Choose_raised_lows : FnScope N_Choose_raised_lows ["self", "far"] (defScope s_Choose_raised_lows) := ⟨rfl, rfl, rfl, by decide +kernel, rfl, by decide +kernel, by decide +kernel⟩
abbrev s__law_pair_at : Stmt := top 39
abbrev N__law_pair_at : List Str := ["_law_some", "_law_n", "_law_k", "_law_most", "_law_powers", "_law_lists", "_law_time", "_law_found", "_law_number_here"]
theorem sc__law_pair_at : FnScope N__law_pair_at ["_law_some", "_law_n", "_law_k"] (defScope s__law_pair_at) := ⟨rfl, rfl, rfl, by decide +kernel, rfl, by decide +kernel, by decide +kernel⟩
abbrev s_form_value : Stmt := top 14
abbrev N_form_value : List Str := ["form", "n", "k"]
theorem sc_form_value : FnScope N_form_value ["form", "n", "k"] (defScope s_form_value) := ⟨rfl, rfl, rfl, by decide +kernel, rfl, by decide +kernel, by decide +kernel⟩
abbrev s_factorial : Stmt := top 15
abbrev N_factorial : List Str := ["x", "found", "t"]
theorem sc_factorial : FnScope N_factorial ["x"] (defScope s_factorial) := ⟨rfl, rfl, rfl, by decide +kernel, rfl, by decide +kernel, by decide +kernel⟩
abbrev s_divisor : Stmt := top 10
abbrev N_divisor : List Str := ["one", "other", "rest"]
theorem sc_divisor : FnScope N_divisor ["one", "other"] (defScope s_divisor) := ⟨rfl, rfl, rfl, by decide +kernel, rfl, by decide +kernel, by decide +kernel⟩
abbrev s_Part_floor : Stmt := csub (top 18) 4
abbrev N_Part_floor : List Str := ["self", "n", "k", "far"]
theorem sc_Part_floor : FnScope N_Part_floor ["self", "n", "k", "far"] (defScope s_Part_floor) := ⟨rfl, rfl, rfl, by decide +kernel, rfl, by decide +kernel, by decide +kernel⟩
abbrev s__law_whole : Stmt := top 32
abbrev N__law_whole : List Str := ["_law_found"]
theorem sc__law_whole : FnScope N__law_whole ["_law_found"] (defScope s__law_whole) := ⟨rfl, rfl, rfl, by decide +kernel, rfl, by decide +kernel, by decide +kernel⟩
abbrev s__law_forms : Stmt := top 35
abbrev N__law_forms : List Str := ["_law_one", "_law_other", "_law_most", "_law_high", "_law_low"]
theorem sc__law_forms : FnScope N__law_forms ["_law_one", "_law_other", "_law_most"] (defScope s__law_forms) := ⟨rfl, rfl, rfl, by decide +kernel, rfl, by decide +kernel, by decide +kernel⟩
abbrev s__law_number : Stmt := top 31
abbrev N__law_number : List Str := ["_law_cell", "_law_most"]
theorem sc__law_number : FnScope N__law_number ["_law_cell", "_law_most"] (defScope s__law_number) := ⟨rfl, rfl, rfl, by decide +kernel, rfl, by decide +kernel, by decide +kernel⟩
abbrev s__law_divisor : Stmt := top 33
abbrev N__law_divisor : List Str := ["_law_one", "_law_other", "_law_rest"]
theorem sc__law_divisor : FnScope N__law_divisor ["_law_one", "_law_other"] (defScope s__law_divisor) := ⟨rfl, rfl, rfl, by decide +kernel, rfl, by decide +kernel, by decide +kernel⟩
abbrev s_is_choose : Stmt := top 26
abbrev N_is_choose : List Str := ["upper", "lower", "low"]
theorem sc_is_choose : FnScope N_is_choose ["upper", "lower"] (defScope s_is_choose) := ⟨rfl, rfl, rfl, by decide +kernel, rfl, by decide +kernel, by decide +kernel⟩
abbrev s_pair_times : Stmt := top 7
abbrev N_pair_times : List Str := ["one", "other", "found", "left", "a", "right", "b", "powers"]
theorem sc_pair_times : FnScope N_pair_times ["one", "other"] (defScope s_pair_times) := ⟨rfl, rfl, rfl, by decide +kernel, rfl, by decide +kernel, by decide +kernel⟩
abbrev s_Growth_step : Stmt := csub (top 22) 2
abbrev N_Growth_step : List Str := ["self", "i", "far"]
theorem sc_Growth_step : FnScope N_Growth_step ["self", "i", "far"] (defScope s_Growth_step) := ⟨rfl, rfl, rfl, by decide +kernel, rfl, by decide +kernel, by decide +kernel⟩
abbrev s_pair_of_form : Stmt := top 8
abbrev N_pair_of_form : List Str := ["form"]
theorem sc_pair_of_form : FnScope N_pair_of_form ["form"] (defScope s_pair_of_form) := ⟨rfl, rfl, rfl, by decide +kernel, rfl, by decide +kernel, by decide +kernel⟩
abbrev s__law_is_fraction : Stmt := top 40
abbrev N__law_is_fraction : List Str := ["_law_found"]
theorem sc__law_is_fraction : FnScope N__law_is_fraction ["_law_found"] (defScope s__law_is_fraction) := ⟨rfl, rfl, rfl, by decide +kernel, rfl, by decide +kernel, by decide +kernel⟩
abbrev s_Weight_worth : Stmt := csub (top 20) 1
abbrev N_Weight_worth : List Str := ["self", "n", "k"]
theorem sc_Weight_worth : FnScope N_Weight_worth ["self", "n", "k"] (defScope s_Weight_worth) := ⟨rfl, rfl, rfl, by decide +kernel, rfl, by decide +kernel, by decide +kernel⟩
abbrev s_Power_worth : Stmt := csub (top 21) 1
abbrev N_Power_worth : List Str := ["self", "n", "k"]
theorem sc_Power_worth : FnScope N_Power_worth ["self", "n", "k"] (defScope s_Power_worth) := ⟨rfl, rfl, rfl, by decide +kernel, rfl, by decide +kernel, by decide +kernel⟩
abbrev s_Growth_worth : Stmt := csub (top 22) 1
abbrev N_Growth_worth : List Str := ["self", "n", "k"]
theorem sc_Growth_worth : FnScope N_Growth_worth ["self", "n", "k"] (defScope s_Growth_worth) := ⟨rfl, rfl, rfl, by decide +kernel, rfl, by decide +kernel, by decide +kernel⟩
abbrev s_Power_floor : Stmt := csub (top 21) 4
abbrev N_Power_floor : List Str := ["self", "n", "k", "far"]
theorem sc_Power_floor : FnScope N_Power_floor ["self", "n", "k", "far"] (defScope s_Power_floor) := ⟨rfl, rfl, rfl, by decide +kernel, rfl, by decide +kernel, by decide +kernel⟩
abbrev s__law_ratio : Stmt := top 36
abbrev N__law_ratio : List Str := ["_law_one", "_law_other", "_law_top", "_law_number_here", "_law_bottom", "_law_by"]
theorem sc__law_ratio : FnScope N__law_ratio ["_law_one", "_law_other"] (defScope s__law_ratio) := ⟨rfl, rfl, rfl, by decide +kernel, rfl, by decide +kernel, by decide +kernel⟩
abbrev s_made_part : Stmt := top 27
abbrev N_made_part : List Str := ["part", "word"]
theorem sc_made_part : FnScope N_made_part ["part"] (defScope s_made_part) := ⟨rfl, rfl, rfl, by decide +kernel, rfl, by decide +kernel, by decide +kernel⟩
abbrev s_Weight_step : Stmt := csub (top 20) 2
abbrev N_Weight_step : List Str := ["self", "i", "far"]
theorem sc_Weight_step : FnScope N_Weight_step ["self", "i", "far"] (defScope s_Weight_step) := ⟨rfl, rfl, rfl, by decide +kernel, rfl, by decide +kernel, by decide +kernel⟩
abbrev s_rising : Stmt := top 17
abbrev N_rising : List Str := ["form", "low", "high", "found", "t"]
theorem sc_rising : FnScope N_rising ["form", "low", "high"] (defScope s_rising) := ⟨rfl, rfl, rfl, by decide +kernel, rfl, by decide +kernel, by decide +kernel⟩
abbrev s__law_part : Stmt := top 37
abbrev N__law_part : List Str := ["_law_cells", "_law_most", "_law_way", "_law_cell"]
theorem sc__law_part : FnScope N__law_part ["_law_cells", "_law_most"] (defScope s__law_part) := ⟨rfl, rfl, rfl, by decide +kernel, rfl, by decide +kernel, by decide +kernel⟩
abbrev s__law_parts : Stmt := top 38
abbrev N__law_parts : List Str := ["_law_script", "_law_mosts", "_law_found", "_law_k", "_law_part_here", "_law_j"]
theorem sc__law_parts : FnScope N__law_parts ["_law_script", "_law_mosts"] (defScope s__law_parts) := ⟨rfl, rfl, rfl, by decide +kernel, rfl, by decide +kernel, by decide +kernel⟩
abbrev s_Term___init__ : Stmt := csub (top 28) 0
abbrev N_Term___init__ : List Str := ["self", "parts", "part"]
theorem sc_Term___init__ : FnScope N_Term___init__ ["self", "parts"] (defScope s_Term___init__) := ⟨rfl, rfl, rfl, by decide +kernel, rfl, by decide +kernel, by decide +kernel⟩
abbrev s_Choose_up : Stmt := csub (top 19) 4
abbrev N_Choose_up : List Str := ["self", "far", "found", "low"]
theorem sc_Choose_up : FnScope N_Choose_up ["self", "far"] (defScope s_Choose_up) := ⟨rfl, rfl, rfl, by decide +kernel, rfl, by decide +kernel, by decide +kernel⟩
abbrev s_Choose_down : Stmt := csub (top 19) 5
abbrev N_Choose_down : List Str := ["self", "far", "found", "low"]
theorem sc_Choose_down : FnScope N_Choose_down ["self", "far"] (defScope s_Choose_down) := ⟨rfl, rfl, rfl, by decide +kernel, rfl, by decide +kernel, by decide +kernel⟩
abbrev s_Choose_step : Stmt := csub (top 19) 3
abbrev N_Choose_step : List Str := ["self", "i", "far", "found", "low"]
theorem sc_Choose_step : FnScope N_Choose_step ["self", "i", "far"] (defScope s_Choose_step) := ⟨rfl, rfl, rfl, by decide +kernel, rfl, by decide +kernel, by decide +kernel⟩
abbrev s_Term_frame : Stmt := csub (top 28) 4
abbrev N_Term_frame : List Str := ["self", "far", "steps", "up", "down", "part", "i", "step"]
theorem sc_Term_frame : FnScope N_Term_frame ["self", "far"] (defScope s_Term_frame) := ⟨rfl, rfl, rfl, by decide +kernel, rfl, by decide +kernel, by decide +kernel⟩
abbrev s_ratio : Stmt := top 11
abbrev N_ratio : List Str := ["top", "bottom", "by"]
theorem sc_ratio : FnScope N_ratio ["top", "bottom"] (defScope s_ratio) := ⟨rfl, rfl, rfl, by decide +kernel, rfl, by decide +kernel, by decide +kernel⟩
abbrev s_multiplied : Stmt := top 12
abbrev N_multiplied : List Str := ["one", "other"]
theorem sc_multiplied : FnScope N_multiplied ["one", "other"] (defScope s_multiplied) := ⟨rfl, rfl, rfl, by decide +kernel, rfl, by decide +kernel, by decide +kernel⟩
abbrev s_Choose_floor : Stmt := csub (top 19) 6
abbrev N_Choose_floor : List Str := ["self", "n", "k", "far", "below", "low", "x"]
theorem sc_Choose_floor : FnScope N_Choose_floor ["self", "n", "k", "far"] (defScope s_Choose_floor) := ⟨rfl, rfl, rfl, by decide +kernel, rfl, by decide +kernel, by decide +kernel⟩
abbrev s_Growth_floor : Stmt := csub (top 22) 3
abbrev N_Growth_floor : List Str := ["self", "n", "k", "far", "top", "bottom"]
theorem sc_Growth_floor : FnScope N_Growth_floor ["self", "n", "k", "far"] (defScope s_Growth_floor) := ⟨rfl, rfl, rfl, by decide +kernel, rfl, by decide +kernel, by decide +kernel⟩
abbrev s_Term_floor : Stmt := csub (top 28) 3
abbrev N_Term_floor : List Str := ["self", "n", "k", "far", "found", "part"]
theorem sc_Term_floor : FnScope N_Term_floor ["self", "n", "k", "far"] (defScope s_Term_floor) := ⟨rfl, rfl, rfl, by decide +kernel, rfl, by decide +kernel, by decide +kernel⟩
abbrev s_Choose_worth : Stmt := csub (top 19) 2
abbrev N_Choose_worth : List Str := ["self", "n", "k"]
theorem sc_Choose_worth : FnScope N_Choose_worth ["self", "n", "k"] (defScope s_Choose_worth) := ⟨rfl, rfl, rfl, by decide +kernel, rfl, by decide +kernel, by decide +kernel⟩
abbrev s_Term_worth : Stmt := csub (top 28) 2
abbrev N_Term_worth : List Str := ["self", "n", "k", "found", "part"]
theorem sc_Term_worth : FnScope N_Term_worth ["self", "n", "k"] (defScope s_Term_worth) := ⟨rfl, rfl, rfl, by decide +kernel, rfl, by decide +kernel, by decide +kernel⟩
abbrev s__law_holds : Stmt := top 41
abbrev N__law_holds : List Str := ["_law_term", "_law_frame", "_law_far", "_law_n", "_law_k", "_law_here", "_law_there", "_law_i", "_law_worth", "_law_up"]
theorem sc__law_holds : FnScope N__law_holds ["_law_term", "_law_frame", "_law_far", "_law_n", "_law_k"] (defScope s__law_holds) := ⟨rfl, rfl, rfl, by decide +kernel, rfl, by decide +kernel, by decide +kernel⟩
abbrev s_law : Stmt := top 42
abbrev N_law : List Str := ["_law_script", "_law_parts_here", "_law_far", "_law_term", "_law_frame", "_law_points", "_law_cell", "_law_number_here", "_law_most", "_law_n", "_law_k"]
theorem sc_law : FnScope N_law ["_law_script"] (defScope s_law) := ⟨rfl, rfl, rfl, by decide +kernel, rfl, by decide +kernel, by decide +kernel⟩
def d__law_mixed : He.DefD := ⟨("_law_mixed", none), "_law_mixed", "_law_mixed", defArgs s__law_mixed, defBody s__law_mixed, defScope s__law_mixed, [], []⟩
def d__law_cell_at : He.DefD := ⟨("_law_cell_at", none), "_law_cell_at", "_law_cell_at", defArgs s__law_cell_at, defBody s__law_cell_at, defScope s__law_cell_at, [], []⟩
def d_within : He.DefD := ⟨("within", none), "within", "within", defArgs s_within, defBody s_within, defScope s_within, [], []⟩
def d_raised : He.DefD := ⟨("raised", none), "raised", "raised", defArgs s_raised, defBody s_raised, defScope s_raised, [], []⟩
def d_without_noughts : He.DefD := ⟨("without_noughts", none), "without_noughts", "without_noughts", defArgs s_without_noughts, defBody s_without_noughts, defScope s_without_noughts, [], []⟩
def d__law_pair_at : He.DefD := ⟨("_law_pair_at", none), "_law_pair_at", "_law_pair_at", defArgs s__law_pair_at, defBody s__law_pair_at, defScope s__law_pair_at, [], []⟩
def d_form_value : He.DefD := ⟨("form_value", none), "form_value", "form_value", defArgs s_form_value, defBody s_form_value, defScope s_form_value, [], []⟩
def d_factorial : He.DefD := ⟨("factorial", none), "factorial", "factorial", defArgs s_factorial, defBody s_factorial, defScope s_factorial, [], []⟩
def d_divisor : He.DefD := ⟨("divisor", none), "divisor", "divisor", defArgs s_divisor, defBody s_divisor, defScope s_divisor, [], []⟩
def d__law_whole : He.DefD := ⟨("_law_whole", none), "_law_whole", "_law_whole", defArgs s__law_whole, defBody s__law_whole, defScope s__law_whole, [], []⟩
def d__law_forms : He.DefD := ⟨("_law_forms", none), "_law_forms", "_law_forms", defArgs s__law_forms, defBody s__law_forms, defScope s__law_forms, [], []⟩
def d__law_number : He.DefD := ⟨("_law_number", none), "_law_number", "_law_number", defArgs s__law_number, defBody s__law_number, defScope s__law_number, [], []⟩
def d__law_divisor : He.DefD := ⟨("_law_divisor", none), "_law_divisor", "_law_divisor", defArgs s__law_divisor, defBody s__law_divisor, defScope s__law_divisor, [], []⟩
def d_is_choose : He.DefD := ⟨("is_choose", none), "is_choose", "is_choose", defArgs s_is_choose, defBody s_is_choose, defScope s_is_choose, [], []⟩
def d_pair_times : He.DefD := ⟨("pair_times", none), "pair_times", "pair_times", defArgs s_pair_times, defBody s_pair_times, defScope s_pair_times, [], []⟩
def d_pair_of_form : He.DefD := ⟨("pair_of_form", none), "pair_of_form", "pair_of_form", defArgs s_pair_of_form, defBody s_pair_of_form, defScope s_pair_of_form, [], []⟩
def d__law_is_fraction : He.DefD := ⟨("_law_is_fraction", none), "_law_is_fraction", "_law_is_fraction", defArgs s__law_is_fraction, defBody s__law_is_fraction, defScope s__law_is_fraction, [], []⟩
def d__law_ratio : He.DefD := ⟨("_law_ratio", none), "_law_ratio", "_law_ratio", defArgs s__law_ratio, defBody s__law_ratio, defScope s__law_ratio, [], []⟩
def d_made_part : He.DefD := ⟨("made_part", none), "made_part", "made_part", defArgs s_made_part, defBody s_made_part, defScope s_made_part, [], []⟩
def d_rising : He.DefD := ⟨("rising", none), "rising", "rising", defArgs s_rising, defBody s_rising, defScope s_rising, [], []⟩
def d__law_part : He.DefD := ⟨("_law_part", none), "_law_part", "_law_part", defArgs s__law_part, defBody s__law_part, defScope s__law_part, [], []⟩
def d__law_parts : He.DefD := ⟨("_law_parts", none), "_law_parts", "_law_parts", defArgs s__law_parts, defBody s__law_parts, defScope s__law_parts, [], []⟩
def d_ratio : He.DefD := ⟨("ratio", none), "ratio", "ratio", defArgs s_ratio, defBody s_ratio, defScope s_ratio, [], []⟩
def d_multiplied : He.DefD := ⟨("multiplied", none), "multiplied", "multiplied", defArgs s_multiplied, defBody s_multiplied, defScope s_multiplied, [], []⟩
def d__law_holds : He.DefD := ⟨("_law_holds", none), "_law_holds", "_law_holds", defArgs s__law_holds, defBody s__law_holds, defScope s__law_holds, [], []⟩
def d_law : He.DefD := ⟨("law", none), "law", "law", defArgs s_law, defBody s_law, defScope s_law, [], []⟩
def d_Term_frame : He.DefD := ⟨("Term", some "frame"), "frame", "Term.frame", defArgs s_Term_frame, defBody s_Term_frame, defScope s_Term_frame, [], []⟩
def d_Term_floor : He.DefD := ⟨("Term", some "floor"), "floor", "Term.floor", defArgs s_Term_floor, defBody s_Term_floor, defScope s_Term_floor, [], []⟩
def d_Term_worth : He.DefD := ⟨("Term", some "worth"), "worth", "Term.worth", defArgs s_Term_worth, defBody s_Term_worth, defScope s_Term_worth, [], []⟩
def d_Choose_up : He.DefD := ⟨("Choose", some "up"), "up", "Choose.up", defArgs s_Choose_up, defBody s_Choose_up, defScope s_Choose_up, [], []⟩
def d_Weight_up : He.DefD := ⟨("Weight", some "up"), "up", "Part.up", defArgs s_Part_up, defBody s_Part_up, defScope s_Part_up, [], []⟩
def d_Power_up : He.DefD := ⟨("Power", some "up"), "up", "Power.up", defArgs s_Power_up, defBody s_Power_up, defScope s_Power_up, [], []⟩
def d_Growth_up : He.DefD := ⟨("Growth", some "up"), "up", "Part.up", defArgs s_Part_up, defBody s_Part_up, defScope s_Part_up, [], []⟩
def d_Choose_down : He.DefD := ⟨("Choose", some "down"), "down", "Choose.down", defArgs s_Choose_down, defBody s_Choose_down, defScope s_Choose_down, [], []⟩
def d_Weight_down : He.DefD := ⟨("Weight", some "down"), "down", "Part.down", defArgs s_Part_down, defBody s_Part_down, defScope s_Part_down, [], []⟩
def d_Power_down : He.DefD := ⟨("Power", some "down"), "down", "Power.down", defArgs s_Power_down, defBody s_Power_down, defScope s_Power_down, [], []⟩
def d_Growth_down : He.DefD := ⟨("Growth", some "down"), "down", "Part.down", defArgs s_Part_down, defBody s_Part_down, defScope s_Part_down, [], []⟩
def d_Choose_step : He.DefD := ⟨("Choose", some "step"), "step", "Choose.step", defArgs s_Choose_step, defBody s_Choose_step, defScope s_Choose_step, [], []⟩
def d_Weight_step : He.DefD := ⟨("Weight", some "step"), "step", "Weight.step", defArgs s_Weight_step, defBody s_Weight_step, defScope s_Weight_step, [], []⟩
def d_Power_step : He.DefD := ⟨("Power", some "step"), "step", "Part.step", defArgs s_Part_step, defBody s_Part_step, defScope s_Part_step, [], []⟩
def d_Growth_step : He.DefD := ⟨("Growth", some "step"), "step", "Growth.step", defArgs s_Growth_step, defBody s_Growth_step, defScope s_Growth_step, [], []⟩
def d_Choose_raised_lows : He.DefD := ⟨("Choose", some "raised_lows"), "raised_lows", "Choose.raised_lows", defArgs s_Choose_raised_lows, defBody s_Choose_raised_lows, defScope s_Choose_raised_lows, [], []⟩
def d_Choose_floor : He.DefD := ⟨("Choose", some "floor"), "floor", "Choose.floor", defArgs s_Choose_floor, defBody s_Choose_floor, defScope s_Choose_floor, [], []⟩
def d_Weight_floor : He.DefD := ⟨("Weight", some "floor"), "floor", "Part.floor", defArgs s_Part_floor, defBody s_Part_floor, defScope s_Part_floor, [], []⟩
def d_Power_floor : He.DefD := ⟨("Power", some "floor"), "floor", "Power.floor", defArgs s_Power_floor, defBody s_Power_floor, defScope s_Power_floor, [], []⟩
def d_Growth_floor : He.DefD := ⟨("Growth", some "floor"), "floor", "Growth.floor", defArgs s_Growth_floor, defBody s_Growth_floor, defScope s_Growth_floor, [], []⟩
def d_Choose_worth : He.DefD := ⟨("Choose", some "worth"), "worth", "Choose.worth", defArgs s_Choose_worth, defBody s_Choose_worth, defScope s_Choose_worth, [], []⟩
def d_Weight_worth : He.DefD := ⟨("Weight", some "worth"), "worth", "Weight.worth", defArgs s_Weight_worth, defBody s_Weight_worth, defScope s_Weight_worth, [], []⟩
def d_Power_worth : He.DefD := ⟨("Power", some "worth"), "worth", "Power.worth", defArgs s_Power_worth, defBody s_Power_worth, defScope s_Power_worth, [], []⟩
def d_Growth_worth : He.DefD := ⟨("Growth", some "worth"), "worth", "Growth.worth", defArgs s_Growth_worth, defBody s_Growth_worth, defScope s_Growth_worth, [], []⟩
def d_Term___init__ : He.DefD := ⟨("Term", some "__init__"), "__init__", "Term.__init__", defArgs s_Term___init__, defBody s_Term___init__, defScope s_Term___init__, [], []⟩
def d_Choose___init__ : He.DefD := ⟨("Choose", some "__init__"), "__init__", "Choose.__init__", defArgs s_Choose___init__, defBody s_Choose___init__, defScope s_Choose___init__, [], []⟩
def d_Weight___init__ : He.DefD := ⟨("Weight", some "__init__"), "__init__", "Weight.__init__", defArgs s_Weight___init__, defBody s_Weight___init__, defScope s_Weight___init__, [], []⟩
def d_Power___init__ : He.DefD := ⟨("Power", some "__init__"), "__init__", "Power.__init__", defArgs s_Power___init__, defBody s_Power___init__, defScope s_Power___init__, [], []⟩
def d_Growth___init__ : He.DefD := ⟨("Growth", some "__init__"), "__init__", "Growth.__init__", defArgs s_Growth___init__, defBody s_Growth___init__, defScope s_Growth___init__, [], []⟩
def fn : List He.DefD := ([d__law_mixed, d__law_cell_at, d_within, d_raised, d_without_noughts, d__law_pair_at, d_form_value, d_factorial, d_divisor, d__law_whole, d__law_forms, d__law_number, d__law_divisor, d_is_choose, d_pair_times, d_pair_of_form, d__law_is_fraction, d__law_ratio, d_made_part, d_rising, d__law_part, d__law_parts, d_ratio, d_multiplied, d__law_holds] : List He.DefD) ++ ([d_law, d_Term_frame, d_Term_floor, d_Term_worth, d_Choose_up, d_Weight_up, d_Power_up, d_Growth_up, d_Choose_down, d_Weight_down, d_Power_down, d_Growth_down, d_Choose_step, d_Weight_step, d_Power_step, d_Growth_step, d_Choose_raised_lows, d_Choose_floor, d_Weight_floor, d_Power_floor, d_Growth_floor, d_Choose_worth, d_Weight_worth, d_Power_worth, d_Growth_worth] : List He.DefD) ++ ([d_Term___init__, d_Choose___init__, d_Weight___init__, d_Power___init__, d_Growth___init__] : List He.DefD)
def fa : List He.Fa := ([.glo "_law_mixed", .glo "_law_cell_at", .glo "within", .glo "raised", .glo "without_noughts", .glo "_law_pair_at", .glo "form_value", .glo "factorial", .glo "divisor", .glo "_law_whole", .glo "_law_forms", .glo "_law_number", .glo "_law_divisor", .glo "is_choose", .glo "pair_times", .glo "pair_of_form", .glo "_law_is_fraction", .glo "_law_ratio", .glo "made_part", .glo "rising", .glo "_law_part", .glo "_law_parts", .glo "ratio", .glo "multiplied", .glo "_law_holds"] : List He.Fa) ++ ([.glo "law", .glo "Choose", .cls "Choose", .glo "Growth", .cls "Growth", .glo "Power", .cls "Power", .glo "Term", .cls "Term", .glo "Weight", .cls "Weight", .noat "Choose" "high", .noat "Choose" "lows", .noat "Growth" "fraction", .noat "Power" "fraction", .noat "Term" "made", .noat "Term" "words", .noat "Weight" "form", .meth "Term" "frame", .meth "Term" "floor", .meth "Term" "worth", .meth "Choose" "up", .meth "Weight" "up", .meth "Power" "up", .meth "Growth" "up"] : List He.Fa) ++ ([.meth "Choose" "down", .meth "Weight" "down", .meth "Power" "down", .meth "Growth" "down", .meth "Choose" "step", .meth "Weight" "step", .meth "Power" "step", .meth "Growth" "step", .meth "Choose" "raised_lows", .meth "Choose" "floor", .meth "Weight" "floor", .meth "Power" "floor", .meth "Growth" "floor", .meth "Choose" "worth", .meth "Weight" "worth", .meth "Power" "worth", .meth "Growth" "worth", .mkr "Term", .mkr "Choose", .mkr "Weight", .mkr "Power", .mkr "Growth", .free "abs", .free "bool", .free "enumerate"] : List He.Fa) ++ ([.free "int", .free "isinstance", .free "len", .free "list", .free "max", .free "min", .free "range", .free "tuple", .int "MOST" 6, .glo "NoNumber", .glo "NoTerm", .exc "NoNumber", .exc "NoTerm"] : List He.Fa)
def exL (K : PySem.W.Frag) : List Bool := [DL.seerB K]
def ex (K : PySem.W.Frag) : Bool := (exL K).all id
theorem ex_at {K : PySem.W.Frag} (h : ex K = true) (i : Nat) {b : Bool} (e : (exL K)[i]? = some b) : b = true := List.all_eq_true.mp h b (List.mem_of_getElem? e)
abbrev R : PySem.W.OpenRow := PySem.W.OpenLaw.row PySem.Challenge.rw_sumcraft_k55_whole_frames_hold
abbrev hk : PySem.W.Hook := DL.hookN 6 fa fn ex
def ob (s : PySem.W.SharedT) : DL.AlN := DL.obsN 6 fa fn ex (HandSHeadRun.getT s)
theorem ob_eq (s : PySem.W.SharedT) : ob s = hk.obs s.abs := DL.obsN_eq (HandSHeadRun.getT_eq s)
def loose : List Str := (["_wall", "without_noughts", "pair_times", "pair_of_form", "divisor", "ratio", "multiplied", "form_value", "factorial", "raised", "rising", "within", "is_choose", "made_part", "_law_cell_at", "_law_number", "_law_whole", "_law_divisor", "_law_mixed", "_law_forms", "_law_ratio", "_law_part", "_law_parts", "_law_pair_at", "_law_is_fraction"] : List Str) ++ (["_law_holds", "SumError", "NoNumber", "NoTerm", "Part", "Choose", "Weight", "Power", "Growth", "Term", "MOST"] : List Str)
noncomputable abbrev oR (w : World) (os : OsState) := HandSHeadRun.endF (HandSHeadRun.stepQ (HandSHeadRun.denQ HandSHeadRun.tabQ) R.prog w) 6000 R.prog w os
abbrev qR : Program := PySem.W.view R.prog [42]
abbrev kR (s : PySem.W.SharedT) : PySem.W.Frag := DL.frN (HandSHeadRun.getT s) 6
open PySem.W PySem.Calls HandSHeadRun in
theorem run1 (w : World) (os : OsState) : (oR w os).map (fun s => (looksF R.prog (boot_heap w.params) s.abs, seenQ qR loose (importedModules R.prog.main.body) (fun s => xlAt qR [] s && recOk R.toRowW.records s) s.abs)) = some (true, openGood qR loose) := by kernel_rfl
theorem run2 (w : World) (os : OsState) : (oR w os).map (fun s => fa.all fun f => f.ok (kR s)) = some true := by kernel_rfl
theorem run3 (w : World) (os : OsState) : (oR w os).map (fun s => fn.all fun d => d.ok (kR s)) = some true := by kernel_rfl
theorem run4 (w : World) (os : OsState) : (oR w os).map (fun s => fn.map fun d => He.fnW (kR s) d.at_) = some (fn.map He.DefD.val) := by kernel_rfl
theorem run5 (w : World) (os : OsState) : (oR w os).map (fun s => ex (kR s)) = some true := by kernel_rfl
theorem run6 (w : World) (os : OsState) : (oR w os).map (fun s => DL.nestB (kR s) (HandSHeadRun.getT s)) = some true := by kernel_rfl
theorem run (w : World) : HandSHeadRun.RunEq R (PySem.W.view R.prog [42]) hk ob 6000 loose w := by
  intro os
  exact DL.run_join (run1 w os) (run2 w os) (run3 w os) (run4 w os) (run5 w os) (run6 w os)
end Row
end
noncomputable section
open DL
open L2 (atI ixN)
def gcdI (a b : Int) : Int := (Int.gcd a b : Nat)
theorem absI_eq (a : Int) : (if a < 0 then -a else a) = (a.natAbs : Int) := by split <;> omega
theorem fmod_nat (a b : Nat) : ((a : Int).fmod b) = ((a % b : Nat) : Int) := by rw [Int.fmod_eq_emod_of_nonneg _ (by omega)]; rfl
theorem gcd_turn (a b : Nat) : Nat.gcd b (a % b) = Nat.gcd a b := by rw [Nat.gcd_comm a b, Nat.gcd_rec b a, Nat.gcd_comm]
theorem natAbs_mul_lt {x y : Int} {m n k : Nat} (hx : x.natAbs < 2 ^ m) (hy : y.natAbs < 2 ^ n) (hk : m + n ≤ k) : (x * y).natAbs < 2 ^ k := by
  rw [Int.natAbs_mul]
  have h1 : x.natAbs * y.natAbs < 2 ^ m * 2 ^ n := Nat.mul_lt_mul'' hx hy
  rw [← Nat.pow_add] at h1
  exact Nat.lt_of_lt_of_le h1 (Nat.pow_le_pow_right (by omega) hk)
theorem natAbs_add_lt {x y : Int} {m k : Nat} (hx : x.natAbs < 2 ^ m) (hy : y.natAbs < 2 ^ m) (hk : m + 1 ≤ k) : (x + y).natAbs < 2 ^ k := by
  have h1 : (x + y).natAbs ≤ x.natAbs + y.natAbs := Int.natAbs_add_le x y
  have h2 : 2 ^ (m + 1) ≤ 2 ^ k := Nat.pow_le_pow_right (by omega) hk
  rw [Nat.pow_succ] at h2
  omega
theorem lt_up {a m n : Nat} (h : a < 2 ^ m) (hm : m ≤ n) : a < 2 ^ n := Nat.lt_of_lt_of_le h (Nat.pow_le_pow_right (by omega) hm)
def dIs : List D → Option (List Int)
  | [] => some []
  | .int i :: r => (dIs r).map (i :: ·)
  | _ => none
def oIs : List O → Option (List Int)
  | [] => some []
  | .fz (.int i) :: r => (oIs r).map (i :: ·)
  | _ => none
def asIL : O → Option (List Int)
  | .ls os => oIs os
  | .fz (.lst ds) => dIs ds
  | _ => none
abbrev lD (xs : List Int) : D := .lst (xs.map .int)
abbrev lO (xs : List Int) : O := .fz (.lst (xs.map .int))
abbrev nO (xs : List Int) : O := .ls (iL xs)
theorem dIs_eq : ∀ {ds : List D} {xs : List Int}, dIs ds = some xs → ds = xs.map .int
  | [], xs, h => by cases h; rfl
  | d :: r, xs, h => by
    cases d with
    | int i =>
      cases e : dIs r with
      | none => simp [dIs, e] at h
      | some ys =>
        have h' : i :: ys = xs := by simpa [dIs, e] using h
        rw [← h', dIs_eq e]; rfl
    | _ => simp [dIs] at h
theorem oIs_eq : ∀ {os : List O} {xs : List Int}, oIs os = some xs → os = iL xs
  | [], xs, h => by cases h; rfl
  | o :: r, xs, h => by
    cases o with
    | ls _ => simp [oIs] at h
    | tp _ => simp [oIs] at h
    | ob _ _ _ => simp [oIs] at h
    | dt _ _ => simp [oIs] at h
    | dk _ _ => simp [oIs] at h
    | gh _ _ _ => simp [oIs] at h
    | fz d =>
      cases d with
      | int i =>
        cases e : oIs r with
        | none => simp [oIs, e] at h
        | some ys =>
          have h' : i :: ys = xs := by simpa [oIs, e] using h
          rw [← h', oIs_eq e]; rfl
      | _ => simp [oIs] at h
@[simp] theorem dIs_map (xs : List Int) : dIs (xs.map .int) = some xs := by induction xs with
  | nil => rfl
  | cons x xs ih => simp [dIs, ih]
@[simp] theorem oIs_iL (xs : List Int) : oIs (iL xs) = some xs := by induction xs with
  | nil => rfl
  | cons x xs ih => simp [oIs, iL] at ih ⊢; rw [ih]
@[simp] theorem asIL_ls (xs : List Int) : asIL (.ls (iL xs)) = some xs := oIs_iL xs
@[simp] theorem asIL_lst (xs : List Int) : asIL (.fz (.lst (xs.map .int))) = some xs := dIs_map xs
@[simp] theorem asIL_lD (xs : List Int) : asIL (.fz (lD xs)) = some xs := dIs_map xs
@[simp] theorem asIL_nil : asIL (.fz (.lst [])) = some [] := (rfl)
@[simp] theorem asIL_nil2 : asIL (.ls []) = some [] := (rfl)
theorem asIL_cases {o : O} {xs : List Int} (h : asIL o = some xs) : o = nO xs ∨ o = lO xs := by
  cases o with
  | ls os => left; rw [oIs_eq (show oIs os = some xs from h)]
  | tp os => simp [asIL] at h
  | ob _ _ _ => simp [asIL] at h
  | dt _ _ => simp [asIL] at h
  | dk _ _ => simp [asIL] at h
  | gh _ _ _ => simp [asIL] at h
  | fz d =>
    cases d with
    | lst ds => right; rw [dIs_eq (show dIs ds = some xs from h)]
    | _ => simp [asIL] at h
@[simp] theorem see_a (w : Bool) (o : O) : (see w o).a = o := by
  cases o with
  | fz d => rfl
  | ls os => cases w <;> rfl
  | tp os => cases w <;> rfl
  | ob _ _ _ => cases w <;> rfl
  | dt _ _ => cases w <;> rfl
  | dk _ _ => cases w <;> rfl
  | gh _ _ _ => cases w <;> rfl
theorem asIL_items {o : O} {xs : List Int} (h : asIL o = some xs) : items o = some (iL xs) := by
  rcases asIL_cases h with rfl | rfl
  · rfl
  · exact items_int xs
theorem asIL_er {o : O} {xs : List Int} (h : asIL o = some xs) : er o = lD xs := by
  rcases asIL_cases h with rfl | rfl
  · simp [ers_iL]
  · rfl
theorem asIL_fz {o : O} {xs : List Int} (h : asIL o = some xs) : asIL (.fz (er o)) = some xs := by rw [asIL_er h]; simp
theorem ixO_IL {o : O} {xs : List Int} (h : asIL o = some xs) (k : Int) : ixO o k = atI (iL xs) k := by
  have hi := asIL_items h
  rcases asIL_cases h with rfl | rfl
  · rfl
  · show (items (lO xs)).bind (fun os => atI os k) = _
    rw [hi]; rfl
theorem atI_iL {xs : List Int} {i : Nat} {k : Int} (hk : k = (i : Int)) (h : i < xs.length) : atI (iL xs) k = some (I xs[i]) := by
  refine atI_ok (by omega) ?_
  rw [show k.toNat = i by omega]; exact iL_get h
theorem ix_at {f g : FE} {r : Env} {x : R} {xs : List Int} {k : Int} {v : Int} (h1 : f r = .ok x) (hx : asIL x.a = some xs) (h2 : g r = .ok (.nw (I k))) (h : atI (iL xs) k = some (I v)) : eIx f g r = .ok (.nw (I v)) := by
  cases x with
  | nw o =>
    have e := ixO_IL hx k
    rw [h] at e
    have e' : ixO (.fz (er o)) k = some (I v) := e
    simp [eIx, h1, h2, e']
  | vw o =>
    have e : ixO o k = _ := ixO_IL hx k
    rw [h] at e
    simp [eIx, h1, h2, e]
  | bw o =>
    have e : ixO o k = _ := ixO_IL hx k
    rw [h] at e
    simp [eIx, h1, h2, e]
theorem ix_IL {f g : FE} {r : Env} {x : R} {xs : List Int} {i : Nat} {k : Int} (h1 : f r = .ok x) (hx : asIL x.a = some xs) (h2 : g r = .ok (.nw (I k))) (hk : k = (i : Int)) (h : i < xs.length) : eIx f g r = .ok (.nw (I xs[i])) :=
  ix_at h1 hx h2 (atI_iL hk h)
theorem its_nw {o : O} {xs : List Int} (h : asIL o = some xs) : itsL (.nw o) = .ok (xs.map intR) := by
  have hi := asIL_items (asIL_fz h)
  simp [itsL, hi, iL, intR]
theorem cutL_iL (xs : List Int) (lo hi : Option Int) : cutL (iL xs) lo hi = iL (cutL xs lo hi) := by
  unfold cutL
  simp only [iL_length]
  simp only [iL, List.map_drop, List.map_take]
theorem lsR_iL {xs : List Int} (h : xs.length ≤ 100000) : lsR (iL xs) = .ok (.nw (nO xs)) := lsR_ev (allFz_iL xs) (by simpa using h)
def plainD : Nat → D → Bool
  | _, .int _ => true
  | _, .bl _ => true
  | _, .non => true
  | _, .str x => PySem.PyData.canLay0 (.str x)
  | n + 1, .lst ds => ds.all (plainD n)
  | n + 1, .tup ds => ds.all (plainD n)
  | _, _ => false
theorem plain_py : ∀ (n : Nat) (d : D), plainD n d = true → ∃ p, py d = some p ∧ PySem.PyData.canLay0 p = true ∧ PySem.PyData.depth p ≤ n + 1
  | n, .int i, _ => ⟨.int i, rfl, rfl, by simp [PySem.PyData.depth]⟩
  | n, .bl i, _ => ⟨.bool i, rfl, rfl, by simp [PySem.PyData.depth]⟩
  | n, .non, _ => ⟨.none, rfl, rfl, by simp [PySem.PyData.depth]⟩
  | n + 1, .lst ds, h => by
    have go : ∀ ds : List D, ds.all (plainD n) = true → ∃ ps, pys ds = some ps ∧ PySem.PyData.canLayAll0 ps = true ∧ PySem.PyData.depthAll ps ≤ n + 1 := fun ds => by
      induction ds with
      | nil => intro _; exact ⟨[], rfl, rfl, by simp [PySem.PyData.depthAll]⟩
      | cons d ds ih =>
        intro h
        obtain ⟨h1, h2⟩ := Bool.and_eq_true_iff.mp h
        obtain ⟨p, e1, e2, e3⟩ := plain_py n d h1
        obtain ⟨ps, f1, f2, f3⟩ := ih h2
        exact ⟨p :: ps, by simp [pys, e1, f1], by simp [PySem.PyData.canLayAll0, e2, f2], by simp only [PySem.PyData.depthAll]; omega⟩
    obtain ⟨ps, f1, f2, f3⟩ := go ds h
    exact ⟨.list ps, by simp [py, f1], f2, by simp only [PySem.PyData.depth]; omega⟩
  | n + 1, .tup ds, h => by
    have go : ∀ ds : List D, ds.all (plainD n) = true → ∃ ps, pys ds = some ps ∧ PySem.PyData.canLayAll0 ps = true ∧ PySem.PyData.depthAll ps ≤ n + 1 := fun ds => by
      induction ds with
      | nil => intro _; exact ⟨[], rfl, rfl, by simp [PySem.PyData.depthAll]⟩
      | cons d ds ih =>
        intro h
        obtain ⟨h1, h2⟩ := Bool.and_eq_true_iff.mp h
        obtain ⟨p, e1, e2, e3⟩ := plain_py n d h1
        obtain ⟨ps, f1, f2, f3⟩ := ih h2
        exact ⟨p :: ps, by simp [pys, e1, f1], by simp [PySem.PyData.canLayAll0, e2, f2], by simp only [PySem.PyData.depthAll]; omega⟩
    obtain ⟨ps, f1, f2, f3⟩ := go ds h
    exact ⟨.tuple ps, by simp [py, f1], f2, by simp only [PySem.PyData.depth]; omega⟩
  | n, .str x, h => ⟨.str x, rfl, by cases n <;> exact h, by simp [PySem.PyData.depth]⟩
  | n, .ex _, h => by cases n <;> simp [plainD] at h
  | n, .scr _, h => by cases n <;> simp [plainD] at h
  | n, .obj _ _ _, h => by cases n <;> simp [plainD] at h
  | n, .row _ _, h => by cases n <;> simp [plainD] at h
  | n, .dct _ _, h => by cases n <;> simp [plainD] at h
  | n, .dck _ _, h => by cases n <;> simp [plainD] at h
  | 0, .lst _, h => by simp [plainD] at h
  | 0, .tup _, h => by simp [plainD] at h
theorem call1 {M : List O → Res O} {f : FE} {r : Env} {x : R} {o : O} (h : f r = .ok x) (hm : M [x.a] = .ok o) : eCall M (aCons f aNil) r = .ok (.nw o) := by
  rw [eCall_ev, aCons_ev, h]; simp [hm]
theorem call2 {M : List O → Res O} {f g : FE} {r : Env} {x y : R} {o : O} (h : f r = .ok x) (h2 : g r = .ok y) (hm : M [x.a, y.a] = .ok o) : eCall M (aCons f (aCons g aNil)) r = .ok (.nw o) := by
  rw [eCall_ev, aCons_ev, h, aCons_ev, h2]; simp [hm]
theorem call3 {M : List O → Res O} {f g k : FE} {r : Env} {x y z : R} {o : O} (h : f r = .ok x) (h2 : g r = .ok y) (h3 : k r = .ok z) (hm : M [x.a, y.a, z.a] = .ok o) : eCall M (aCons f (aCons g (aCons k aNil))) r = .ok (.nw o) := by
  rw [eCall_ev, aCons_ev, h, aCons_ev, h2, aCons_ev, h3]; simp [hm]
theorem b1 {g : List O → Res R} {f : FE} {r : Env} {x : R} (h : f r = .ok x) : eB g (aCons f aNil) r = g [x.a] := by
  rw [eB_ev, aCons_ev, h]; simp
theorem b2 {g : List O → Res R} {f k : FE} {r : Env} {x y : R} (h : f r = .ok x) (h2 : k r = .ok y) : eB g (aCons f (aCons k aNil)) r = g [x.a, y.a] := by
  rw [eB_ev, aCons_ev, h, aCons_ev, h2]; simp
theorem op_of {g : O → O → Res R} {f k : FE} {r : Env} {x y : R} (h : f r = .ok x) (h2 : k r = .ok y) : eOp g f k r = g x.a y.a := by
  rw [eOp_ev, h, h2]; simp
theorem bF {f : FE} {r : Env} (h : f r = .ok (.nw (.fz (.bl true)))) : tNotD (tOf f) r = .ok false := tNot_ok (tOf_ok h)
theorem or_ff {f g : Env → Res Bool} {r : Env} (h : f r = .ok false) (h2 : g r = .ok false) : tOrD f g r = .ok false := by simp [h, h2]
theorem er_nO (xs : List Int) : er (nO xs) = lD xs := by simp [ers_iL]
theorem ra_nO (xs : List Int) : (R.nw (nO xs)).a = lO xs := by rw [ra_nw, er_nO]
theorem lc_gen {fg : FG} {f : FE} {r : Env} {g : Nat → R} {v : Nat → O} : ∀ (l : List Nat) (acc : List O), (∀ i ∈ l, ∃ r1, fg (g i) r = some r1 ∧ f r1 = .ok (.nw (v i))) → acc.length + l.length ≤ 100000 → lcL fg tYesD f r (l.map g) acc = .ok (.nw (.ls (acc ++ l.map v)))
  | [], acc, _, _ => by simp [lcL]
  | i :: l, acc, h, hl => by
    obtain ⟨r1, e1, e2⟩ := h i List.mem_cons_self
    simp only [List.length_cons] at hl
    have ih := lc_gen (fg := fg) (f := f) (r := r) (g := g) (v := v) l (acc ++ [v i]) (fun j hj => h j (List.mem_cons_of_mem _ hj)) (by simp; omega)
    simp only [List.map_cons]
    unfold lcL
    simp only [e1, e2, tYes_ev, newO]
    rw [if_pos (by omega), ih]
    simp
theorem lcD_gen {fi : Env → Res (List R)} {fg : FG} {vs : List Nat} {f : FE} {r : Env} {g : Nat → R} {v : Nat → O} {n : Nat} (hi : fi r = .ok ((List.range n).map g)) (hv : vs.all (· < r.length) = true) (h : ∀ i, i < n → ∃ r1, fg (g i) (wipeE r vs) = some r1 ∧ f r1 = .ok (.nw (v i))) (hn : n ≤ 100000) :
    eLcD fi fg vs tYesD f r = .ok (.nw (.ls ((List.range n).map v))) := by
  simp only [eLcD, hi, res_ok, hv, if_true]
  rw [lc_gen (v := v) (List.range n) [] (fun i hi => h i (by simpa using hi)) (by simpa using hn)]
  simp
theorem rngL_eq (n : Nat) : rngL 0 n = (List.range n).map fun (k : Nat) => intR (k : Int) := by
  unfold rngL
  refine List.map_congr_left fun k _ => ?_
  rw [Int.zero_add]
theorem rng_ok {fs : Env → Res (List O)} {r : Env} {n : Nat} (h : fs r = .ok [I n]) (hn : n ≤ 1000000) : iRng rng1 fs r = .ok ((List.range n).map fun (k : Nat) => intR (k : Int)) := by
  rw [iRng_ev, h, res_ok, rng1_ok (by omega) (by omega), Int.toNat_natCast, rngL_eq]
def trim : List Int → List Int
  | [] => []
  | x :: xs => match trim xs with
    | [] => if x = 0 then [] else [x]
    | y :: ys => x :: y :: ys
def co (xs : List Int) (k : Nat) : Int := xs.getD k 0
@[simp] theorem co_nil (k : Nat) : co [] k = 0 := by simp [co]
@[simp] theorem co_zero (x : Int) (xs : List Int) : co (x :: xs) 0 = x := by simp [co]
@[simp] theorem co_succ (x : Int) (xs : List Int) (k : Nat) : co (x :: xs) (k + 1) = co xs k := by simp [co]
theorem co_lt {xs : List Int} {k : Nat} (h : k < xs.length) : co xs k = xs[k] := by
  unfold co
  rw [List.getD_eq_getElem?_getD, List.getElem?_eq_getElem h]; rfl
theorem co_ge {xs : List Int} {k : Nat} (h : xs.length ≤ k) : co xs k = 0 := by
  unfold co
  rw [List.getD_eq_getElem?_getD, List.getElem?_eq_none h]; rfl
theorem co_trim : ∀ (xs : List Int) (k : Nat), co (trim xs) k = co xs k
  | [], k => rfl
  | x :: xs, k => by
    have ih := co_trim xs
    cases e : trim xs with
    | nil =>
      rw [e] at ih
      by_cases hx : x = 0
      · simp only [trim, e, hx, if_true]
        cases k with
        | zero => simp
        | succ k => simp; simpa using ih k
      · simp only [trim, e, hx, if_false]
        cases k with
        | zero => simp
        | succ k => simp; simpa using ih k
    | cons y ys =>
      rw [e] at ih
      simp only [trim, e]
      cases k with
      | zero => simp
      | succ k => simp only [co_succ]; exact ih k
theorem trim_length_le : ∀ xs : List Int, (trim xs).length ≤ xs.length
  | [] => Nat.le_refl _
  | x :: xs => by
    have ih := trim_length_le xs
    cases e : trim xs with
    | nil =>
      simp only [trim, e]
      split <;> simp
    | cons y ys =>
      rw [e] at ih
      simp only [trim, e, List.length_cons] at ih ⊢
      omega
def sumN : Nat → (Nat → Int) → Int
  | 0, _ => 0
  | n + 1, f => sumN n f + f n
theorem sumN_congr {f g : Nat → Int} : ∀ {n : Nat}, (∀ i, i < n → f i = g i) → sumN n f = sumN n g
  | 0, _ => rfl
  | n + 1, h => by rw [sumN, sumN, sumN_congr fun i hi => h i (by omega), h n (by omega)]
theorem sumN_add (f g : Nat → Int) : ∀ n : Nat, sumN n (fun i => f i + g i) = sumN n f + sumN n g
  | 0 => rfl
  | n + 1 => by rw [sumN, sumN, sumN, sumN_add f g n]; omega
theorem sumN_mul (c : Int) (f : Nat → Int) : ∀ n : Nat, sumN n (fun i => c * f i) = c * sumN n f
  | 0 => by simp [sumN]
  | n + 1 => by rw [sumN, sumN, sumN_mul c f n, Int.mul_add]
def nrm (n : Nat) (f : Nat → Int) : List Int := trim ((List.range n).map f)
theorem co_range (n : Nat) (f : Nat → Int) (k : Nat) : co ((List.range n).map f) k = if k < n then f k else 0 := by
  by_cases h : k < n
  · rw [if_pos h, co_lt (by simpa using h)]; simp
  · rw [if_neg h, co_ge (by simpa using h)]
theorem co_nrm (n : Nat) (f : Nat → Int) (k : Nat) : co (nrm n f) k = if k < n then f k else 0 := by
  unfold nrm; rw [co_trim, co_range]
def padd (xs ys : List Int) : List Int := nrm (max xs.length ys.length) fun k => co xs k + co ys k
def psub (xs ys : List Int) : List Int := nrm (max xs.length ys.length) fun k => co xs k - co ys k
def cvt (xs ys : List Int) (k i : Nat) : Int := if i ≤ k then co xs i * co ys (k - i) else 0
theorem co_padd (xs ys : List Int) (k : Nat) : co (padd xs ys) k = co xs k + co ys k := by
  unfold padd; rw [co_nrm]
  split
  · rfl
  · rw [co_ge (xs := xs) (by omega), co_ge (xs := ys) (by omega)]; rfl
theorem co_psub (xs ys : List Int) (k : Nat) : co (psub xs ys) k = co xs k - co ys k := by
  unfold psub; rw [co_nrm]
  split
  · rfl
  · rw [co_ge (xs := xs) (by omega), co_ge (xs := ys) (by omega)]; rfl
theorem cat_IL {a b : O} {xs ys : List Int} (ha : asIL a = some xs) (hb : asIL b = some ys) (hl : xs.length + ys.length ≤ 100000) : gAddA a b = .ok (.nw (nO (xs ++ ys))) := by
  have e : gAddA a b = gCat a b := by rcases asIL_cases ha with rfl | rfl <;> rfl
  have s1 : isScr a = false := by rcases asIL_cases ha with rfl | rfl <;> rfl
  have s2 : isScr b = false := by rcases asIL_cases hb with rfl | rfl <;> rfl
  rw [e, gCat, s1, s2, asIL_items ha, asIL_items hb]
  simp only [Bool.or_self, Bool.false_eq_true, if_false]
  rw [← List.map_append, lsR_iL (by rw [List.length_append]; omega)]
theorem app_ls {i : Nat} {r : Env} {os : List O} {f : FE} {x : R} {d : D} (h : r[i]? = some (.vl true (.ls os))) (hf : allFz os = true) (h2 : f r = .ok x) (hx : x.a = .fz d) (hl : os.length ≤ 100000) : sApp i f r = .nx (r.set i (.vl true (.ls (os ++ [.fz d])))) := by
  simp only [sApp, onOwn, h, hf, if_true, sUse_ev, h2, hx, hl]
def pev (n : Int) : List Int → Int
  | [] => 0
  | x :: xs => pev n xs * n + x
def BL (b : Nat) (xs : List Int) : Prop := ∀ x ∈ xs, x.natAbs < 2 ^ b
theorem BL.up {b d : Nat} {xs : List Int} (h : BL b xs) (hd : b ≤ d) : BL d xs := fun y hy => lt_up (h y hy) hd
theorem sumN_shift (f : Nat → Int) : ∀ n : Nat, sumN (n + 1) f = f 0 + sumN n fun i => f (i + 1)
  | 0 => by simp [sumN]
  | n + 1 => by rw [sumN, sumN_shift f n, sumN]; omega
theorem pev_sum (n : Int) : ∀ xs : List Int, pev n xs = sumN xs.length fun i => co xs i * n ^ i
  | [] => rfl
  | x :: xs => by
    rw [List.length_cons, sumN_shift, pev, pev_sum n xs]
    simp only [co_zero, Int.pow_zero, Int.mul_one, co_succ]
    rw [Int.add_comm]
    congr 1
    rw [Int.mul_comm, ← sumN_mul]
    exact sumN_congr fun i _ => by rw [Int.pow_succ, Int.mul_comm (n ^ i) n, ← Int.mul_assoc, ← Int.mul_assoc, Int.mul_comm n]
def mulc (xs ys : List Int) (k : Nat) : Int := sumN xs.length (cvt xs ys k)
def cv (u g : Nat → Int) (k : Nat) : Int := sumN (k + 1) fun i => u i * g (k - i)
theorem sumN_more {f : Nat → Int} {n : Nat} : ∀ m : Nat, (∀ i, n ≤ i → f i = 0) → sumN (n + m) f = sumN n f
  | 0, _ => rfl
  | m + 1, h => by
    show sumN (n + m) f + f (n + m) = _
    rw [sumN_more m h, h _ (by omega)]; omega
def subAt (rest : List Int) (a : Nat) (m : Int) (ds : List Int) (j : Nat) : List Int := (List.range rest.length).map fun i => co rest i - if a ≤ i ∧ i < a + j then m * co ds (i - a) else 0
def qmany (ds : List Int) (F t : Nat) (rest : List Int) : Int := (co rest (F - 1 - t + (ds.length - 1))).fdiv (co ds (ds.length - 1))
def qrest (xs ds : List Int) (F : Nat) : Nat → List Int
  | 0 => xs
  | t + 1 => subAt (qrest xs ds F t) (F - 1 - t) (qmany ds F t (qrest xs ds F t)) ds ds.length
def qfound (xs ds : List Int) (F : Nat) : Nat → List Int
  | 0 => (List.range F).map fun _ => 0
  | t + 1 => (qfound xs ds F t).set (F - 1 - t) (qmany ds F t (qrest xs ds F t))
structure QInv (xs ds : List Int) (F t : Nat) : Prop where
  sum : ∀ i, co xs i = co (qrest xs ds F t) i + mulc (qfound xs ds F t) ds i
  low : ∀ i, i < F - t → co (qfound xs ds F t) i = 0
  top : ∀ i, F - t + (ds.length - 1) ≤ i → co (qrest xs ds F t) i = 0
theorem pev_sumN {n : Int} {xs : List Int} {N : Nat} (h : xs.length ≤ N) : pev n xs = sumN N fun i => co xs i * n ^ i := by
  rw [pev_sum]
  obtain ⟨m, rfl⟩ := Nat.exists_eq_add_of_le h
  exact (sumN_more m fun i hi => by rw [co_ge hi, Int.zero_mul]).symm
theorem pev_co {xs ys : List Int} (h : ∀ k, co xs k = co ys k) (n : Int) : pev n xs = pev n ys := by
  rw [pev_sumN (N := max xs.length ys.length) (by omega), pev_sumN (xs := ys) (N := max xs.length ys.length) (by omega)]
  exact sumN_congr fun i _ => by rw [h]
theorem pev_padd (n : Int) (xs ys : List Int) : pev n (padd xs ys) = pev n xs + pev n ys := by
  have l := trim_length_le ((List.range (max xs.length ys.length)).map fun k => co xs k + co ys k)
  rw [List.length_map, List.length_range] at l
  rw [pev_sumN (N := max xs.length ys.length) (xs := padd xs ys) l, pev_sumN (N := max xs.length ys.length) (xs := xs) (by omega), pev_sumN (xs := ys) (N := max xs.length ys.length) (by omega), ← sumN_add]
  exact sumN_congr fun i _ => by rw [co_padd, Int.add_mul]
theorem pev_psub (n : Int) (xs ys : List Int) : pev n (psub xs ys) = pev n xs - pev n ys := by
  have h : pev n (padd (psub xs ys) ys) = pev n xs := pev_co (fun k => by rw [co_padd, co_psub]; omega) n
  rw [pev_padd] at h
  omega
def PF (f : Int → Int) : Prop := ∃ p : List Int, ∀ n, pev n p = f n
theorem PF.of (p : List Int) : PF fun n => pev n p := ⟨p, fun _ => rfl⟩
theorem PF.add {f g : Int → Int} (hf : PF f) (hg : PF g) : PF fun n => f n + g n := by
  obtain ⟨p, h1⟩ := hf
  obtain ⟨q, h2⟩ := hg
  exact ⟨padd p q, fun n => by rw [pev_padd, h1, h2]⟩
theorem PF.sub {f g : Int → Int} (hf : PF f) (hg : PF g) : PF fun n => f n - g n := by
  obtain ⟨p, h1⟩ := hf
  obtain ⟨q, h2⟩ := hg
  exact ⟨psub p q, fun n => by rw [pev_psub, h1, h2]⟩
abbrev lead (xs : List Int) : Int := co xs (xs.length - 1)
def contL (xs : List Int) : Nat := xs.foldl (fun a x => Nat.gcd a x.natAbs) 0
def pp (xs : List Int) : List Int := xs.map fun x => x.fdiv (contL xs)
structure Nrm (F : List Int) : Prop where
  t : trim F = F
  p : 0 < F.length
  c : contL F = 1
  l : 0 < lead F
abbrev LD (ls : List (List Int)) : D := .lst (ls.map lD)
abbrev oL (ls : List (List Int)) : List O := ls.map lO
theorem ers_oL (ls : List (List Int)) : ers (oL ls) = ls.map lD := by rw [ers_eq, List.map_map]; rfl
theorem er_oL (ls : List (List Int)) : er (.ls (oL ls)) = LD ls := by rw [er_ls, ers_oL]
theorem items_LD (ls : List (List Int)) : items (.fz (LD ls)) = some (oL ls) := by simp [oL]
def IsL (o : O) (ls : List (List Int)) : Prop := o = .ls (oL ls) ∨ o = .fz (LD ls)
theorem IsL.items {o : O} {ls : List (List Int)} (h : IsL o ls) : items o = some (oL ls) := by
  rcases h with rfl | rfl
  · rfl
  · exact items_LD ls
theorem IsL.er {o : O} {ls : List (List Int)} (h : IsL o ls) : er o = LD ls := by
  rcases h with rfl | rfl
  · exact er_oL ls
  · rfl
def dLs : List D → Option (List (List Int))
  | [] => some []
  | .lst ds :: r => (dIs ds).bind fun x => (dLs r).map (x :: ·)
  | _ => none
def dLL : D → Option (List (List Int))
  | .lst ds => dLs ds
  | _ => none
@[simp] theorem dLL_LD (ls : List (List Int)) : dLL (LD ls) = some ls := by
  have h : ∀ ls : List (List Int), dLs (ls.map lD) = some ls := fun ls => by
    induction ls with
    | nil => rfl
    | cons x xs ih => simp [dLs, ih]
  exact h ls
abbrev fD (p : Int × Int) : D := .tup [.int p.1, .int p.2]
abbrev VD (vs : List (Int × Int)) : D := .lst (vs.map fD)
def dFr : D → Option (Int × Int)
  | .tup [.int a, .int b] => some (a, b)
  | _ => none
def dFrs : List D → Option (List (Int × Int))
  | [] => some []
  | d :: r => (dFr d).bind fun p => (dFrs r).map (p :: ·)
def dVs : D → Option (List (Int × Int))
  | .lst ds => dFrs ds
  | _ => none
@[simp] theorem dVs_VD (vs : List (Int × Int)) : dVs (VD vs) = some vs := by
  have h : ∀ vs : List (Int × Int), dFrs (vs.map fD) = some vs := fun vs => by
    induction vs with
    | nil => rfl
    | cons x xs ih => simp [dFrs, dFr, ih]
  exact h vs
theorem getD_mem {α : Type} {xs : List α} {k : Nat} {d : α} (h : k < xs.length) : xs.getD k d ∈ xs := by
  rw [List.getD_eq_getElem?_getD, List.getElem?_eq_getElem h]
  exact List.getElem_mem h
def sgcd (a b : Int) : Int := if b < 0 then -gcdI a b else gcdI a b
def small9 (a : Int) : Bool := decide (a.natAbs.log2 < 9000)
def rtop (a b : Int) : Int := a.fdiv (sgcd a b)
def rbot (a b : Int) : Int := b.fdiv (sgcd a b)
theorem gcdI_pos {a b : Int} (h : b ≠ 0) : 0 < gcdI a b := by
  unfold gcdI
  have : 0 < Int.gcd a b := Int.gcd_pos_of_ne_zero_right a h
  omega
theorem sgcd_ne {a b : Int} (h : b ≠ 0) : sgcd a b ≠ 0 := by
  have := gcdI_pos (a := a) h
  unfold sgcd
  split <;> omega
theorem gDiv_s9 {i j : Int} (h : j ≠ 0) (h2 : small9 j = true) : gDiv (.fz (.int i)) (.fz (.int j)) = .ok (.nw (.fz (.int (i.fdiv j)))) := gDiv_ev h (of_decide_eq_true h2)
theorem small9_lt {a : Int} (k : Nat) (h0 : 0 < k) (hk : k ≤ 9000) (h : a.natAbs < 2 ^ k) : small9 a = true := by
  have := PySem.Flt.log2_lt_of h0 h
  unfold small9
  exact decide_eq_true (by omega)
theorem sgcd_natAbs (a b : Int) : (sgcd a b).natAbs = Int.gcd a b := by
  unfold sgcd gcdI
  split <;> simp
theorem sgcd_le {a b : Int} (h : b ≠ 0) : (sgcd a b).natAbs ≤ b.natAbs := by
  rw [sgcd_natAbs]
  exact Nat.le_of_dvd (by omega) (Int.gcd_dvd_natAbs_right a b)
theorem sgcd_dl (a b : Int) : sgcd a b ∣ a := by
  unfold sgcd gcdI
  split
  · exact Int.neg_dvd.mpr (Int.gcd_dvd_left a b)
  · exact Int.gcd_dvd_left a b
theorem sgcd_dr (a b : Int) : sgcd a b ∣ b := by
  unfold sgcd gcdI
  split
  · exact Int.neg_dvd.mpr (Int.gcd_dvd_right a b)
  · exact Int.gcd_dvd_right a b
theorem rtop_mul (a b : Int) : sgcd a b * rtop a b = a := by
  unfold rtop
  rw [Int.fdiv_eq_ediv_of_dvd (sgcd_dl a b)]
  exact Int.mul_ediv_cancel' (sgcd_dl a b)
theorem rbot_mul (a b : Int) : sgcd a b * rbot a b = b := by
  unfold rbot
  rw [Int.fdiv_eq_ediv_of_dvd (sgcd_dr a b)]
  exact Int.mul_ediv_cancel' (sgcd_dr a b)
theorem rbot_pos {a b : Int} (h : b ≠ 0) : 1 ≤ rbot a b := by
  have h1 := rbot_mul a b
  have h2 := gcdI_pos (a := a) h
  unfold sgcd at h1
  by_cases hn : b < 0
  · rw [if_pos hn] at h1
    by_cases h3 : rbot a b ≤ 0
    · have := Int.mul_nonneg_of_nonpos_of_nonpos (show -gcdI a b ≤ 0 by omega) h3
      omega
    · omega
  · rw [if_neg hn] at h1
    by_cases h3 : rbot a b ≤ 0
    · have := Int.mul_nonpos_of_nonneg_of_nonpos (show 0 ≤ gcdI a b by omega) h3
      omega
    · omega
theorem r_gcd {a b : Int} (h : b ≠ 0) : gcdI (rtop a b) (rbot a b) = 1 := by
  unfold gcdI rtop rbot
  rw [Int.fdiv_eq_ediv_of_dvd (sgcd_dl a b), Int.fdiv_eq_ediv_of_dvd (sgcd_dr a b), Int.gcd_eq_natAbs_gcd_natAbs, Int.natAbs_ediv_of_dvd (sgcd_dl a b), Int.natAbs_ediv_of_dvd (sgcd_dr a b), sgcd_natAbs, Int.gcd_eq_natAbs_gcd_natAbs,
    Nat.gcd_div_gcd_div_gcd_of_pos_right (by omega)]
  rfl
theorem r_cross (a b : Int) : rtop a b * b = a * rbot a b := by
  have h1 := rtop_mul a b
  have h2 := rbot_mul a b
  calc rtop a b * b = rtop a b * (sgcd a b * rbot a b) := by rw [h2]
    _ = (sgcd a b * rtop a b) * rbot a b := by rw [← Int.mul_assoc, Int.mul_comm (rtop a b)]
    _ = a * rbot a b := by rw [h1]
theorem rtop_le {a b : Int} (h : b ≠ 0) : (rtop a b).natAbs ≤ a.natAbs := by
  have h1 := congrArg Int.natAbs (rtop_mul a b)
  rw [Int.natAbs_mul] at h1
  have h2 : 0 < (sgcd a b).natAbs := by have := sgcd_ne (a := a) h; omega
  rw [← h1]
  exact Nat.le_mul_of_pos_left _ h2
theorem rbot_le {a b : Int} (h : b ≠ 0) : (rbot a b).natAbs ≤ b.natAbs := by
  have h1 := congrArg Int.natAbs (rbot_mul a b)
  rw [Int.natAbs_mul] at h1
  have h2 : 0 < (sgcd a b).natAbs := by have := sgcd_ne (a := a) h; omega
  exact Nat.le_trans (Nat.le_mul_of_pos_left _ h2) (Nat.le_of_eq h1)
def M_divisor : List O → Res O
  | [.fz (.int a), .fz (.int b)] => .ok (.fz (.int (gcdI a b)))
  | _ => .bad
theorem gDivU_ev {i j : Int} (h : j ≠ 0) : gDivU (.fz (.int i)) (.fz (.int j)) = .ok (.nw (.fz (.int (i.fdiv j)))) := by
  show (if divOkU i j = true then fzR (.int (i.fdiv j)) else .bad) = _
  rw [if_pos (show divOkU i j = true from decide_eq_true h)]; rfl
def M_ratio : List O → Res O
  | [.fz (.int a), .fz (.int b)] => if b = 0 then .exc ⟨"NoNumber", []⟩ else .ok (.fz (.tup [.int (rtop a b), .int (rbot a b)]))
  | _ => .bad
theorem ratio_u {a b : Int} (hb : b ≠ 0) : M_ratio [.fz (.int a), .fz (.int b)] = .ok (.fz (.tup [.int (rtop a b), .int (rbot a b)])) := by
  show (if b = 0 then _ else _) = _
  rw [if_neg hb]
def cellAt (ns : List Int) (k : Int) : Int := ns.getD k.toNat 0
def M__law_cell_at : List O → Res O
  | [.fz (.scr ns), .fz (.int k)] => if 0 ≤ k then .ok (I (cellAt ns k)) else .bad
  | _ => .bad
def lawNumM (cc m : Int) : Int := if cc.fmod 3 = 0 then (cc.fdiv 3).fmod (2 * m - 1) - m + 1 else if cc.fmod 3 = 1 then (cc.fdiv 3).fmod 2001 - 1000 else (cc.fdiv 3).fmod 5 - 2
theorem lawNumM_lt (i : Int) {m : Int} (hm : 1000 < m) : (lawNumM i m).natAbs < m.natAbs := by
  unfold lawNumM
  split
  · have h1 := Int.fmod_nonneg_of_pos (i.fdiv 3) (show (0 : Int) < 2 * m - 1 by omega)
    have h2 := Int.fmod_lt_of_pos (i.fdiv 3) (show (0 : Int) < 2 * m - 1 by omega)
    omega
  · split
    · have h1 := Int.fmod_nonneg_of_pos (i.fdiv 3) (show (0 : Int) < 2001 by omega)
      have h2 := Int.fmod_lt_of_pos (i.fdiv 3) (show (0 : Int) < 2001 by omega)
      omega
    · have h1 := Int.fmod_nonneg_of_pos (i.fdiv 3) (show (0 : Int) < 5 by omega)
      have h2 := Int.fmod_lt_of_pos (i.fdiv 3) (show (0 : Int) < 5 by omega)
      omega
def M__law_number : List O → Res O
  | [.fz (.int i), .fz (.int m)] => if 1000 < m ∧ m < 2 ^ 300 then .ok (.fz (.int (lawNumM i m))) else .bad
  | _ => .bad
def M__law_whole : List O → Res O
  | [.fz (.int _)] => .ok (.fz (.bl true))
  | _ => .bad
def M__law_divisor : List O → Res O
  | [.fz (.int a), .fz (.int b)] => .ok (.fz (.int (gcdI a b)))
  | _ => .bad
theorem num_ok {i m : Int} (h : 1000 < m) (h2 : m < 2 ^ 300) : M__law_number [I i, I m] = .ok (I (lawNumM i m)) := if_pos ⟨h, h2⟩
theorem p60 : (1000 : Int) < 10 ^ 60 ∧ (10 : Int) ^ 60 < 2 ^ 300 := by constructor <;> decide
theorem num60_lt (i : Int) : (lawNumM i (10 ^ 60)).natAbs < 2 ^ 200 := Nat.lt_trans (lawNumM_lt _ p60.1) (by decide)
theorem cell_ok (ns : List Int) {k : Int} (h : 0 ≤ k) : M__law_cell_at [.fz (.scr ns), I k] = .ok (I (cellAt ns k)) := if_pos h
abbrev U : S := .un
abbrev scrS (ns : List Int) : S := .vl false (.fz (.scr ns))
theorem cell_c {ns : List Int} {r : Env} {k : Int} (h : 0 ≤ k) : eCall M__law_cell_at (aCons (eVar 0) (aCons (eC (.int k)) aNil)) (scrS ns :: r) = .ok (.nw (I (cellAt ns k))) :=
  call2 (x := .nw (.fz (.scr ns))) (y := .nw (I k)) rfl rfl (cell_ok ns h)
theorem cell_e {ns : List Int} {r : Env} {f : FE} {k : Int} (h : 0 ≤ k) (hf : f (scrS ns :: r) = .ok (.nw (I k))) : eCall M__law_cell_at (aCons (eVar 0) (aCons f aNil)) (scrS ns :: r) = .ok (.nw (I (cellAt ns k))) :=
  call2 (x := .nw (.fz (.scr ns))) (y := .nw (I k)) rfl hf (cell_ok ns h)
theorem e_mod {f : FE} {r : Env} {a b : Int} (h : f r = .ok (.nw (I a))) (hb : b ≠ 0) : eOp gMod f (eC (.int b)) r = .ok (.nw (I (a.fmod b))) := by
  rw [op_of h (eC_ev _)]; exact gMod_ev hb
theorem e_div {f : FE} {r : Env} {a b : Int} (h : f r = .ok (.nw (I a))) (hb : 0 < b) (h2 : b < 1073741824) : eOp gDiv f (eC (.int b)) r = .ok (.nw (I (a.fdiv b))) := by
  rw [op_of h (eC_ev _)]; exact gDiv_pos hb h2
theorem e_add {f g : FE} {r : Env} {a b : Int} (h : f r = .ok (.nw (I a))) (h2 : g r = .ok (.nw (I b))) : eOp gAddA f g r = .ok (.nw (I (a + b))) := by
  rw [op_of h h2]; rfl
theorem e_sub {f g : FE} {r : Env} {a b : Int} (h : f r = .ok (.nw (I a))) (h2 : g r = .ok (.nw (I b))) : eOp gSub f g r = .ok (.nw (I (a - b))) := by
  rw [op_of h h2]; rfl
theorem t_eq {f g : FE} {r : Env} {a b : Int} (h : f r = .ok (.nw (I a))) (h2 : g r = .ok (.nw (I b))) : tOf (eOp gEq f g) r = .ok (decide (a = b)) := by
  rw [tOf_ev, op_of h h2]; rfl
theorem t_ne {f g : FE} {r : Env} {a b : Int} (h : f r = .ok (.nw (I a))) (h2 : g r = .ok (.nw (I b))) : tOf (eOp gNe f g) r = .ok (!decide (a = b)) := by
  rw [tOf_ev, op_of h h2]; rfl
theorem t_lt {f g : FE} {r : Env} {a b : Int} (h : f r = .ok (.nw (I a))) (h2 : g r = .ok (.nw (I b))) : tOf (eOp gLt f g) r = .ok (decide (a < b)) := by
  rw [tOf_ev, op_of h h2]; rfl
theorem t_gt {f g : FE} {r : Env} {a b : Int} (h : f r = .ok (.nw (I a))) (h2 : g r = .ok (.nw (I b))) : tOf (eOp gGt f g) r = .ok (decide (b < a)) := by
  rw [tOf_ev, op_of h h2]; rfl
theorem fmod_rg {a b : Int} (h : 0 < b) : 0 ≤ a.fmod b ∧ a.fmod b < b := ⟨Int.fmod_nonneg_of_pos a h, Int.fmod_lt_of_pos a h⟩
theorem ixN_last {n : Nat} (h : 0 < n) : ixN n (-1) = some (n - 1) := by
  unfold ixN
  rw [if_neg (by omega), if_pos (by omega)]
  congr 1; omega
theorem app1_go {i j : Nat} {r : Env} {os ps : List O} {g f : FE} {k : Int} {x : R} {d : D} (h : r[i]? = some (.vl true (.ls os))) (hg : g r = .ok (.nw (I k))) (hk : ixN os.length k = some j) (hj : os[j]? = some (.ls ps)) (ha : allFz ps = true) (hf : f r = .ok x) (hx : x.a = .fz d) (hl : ps.length ≤ 100000) :
    sApp1 i g f r = .nx (r.set i (.vl true (.ls (os.set j (.ls (ps ++ [.fz d])))))) := by
  simp only [sApp1, onLs, h, sIx, sUse_ev, hg, ra_nw, er_fz, onOwn1, hk, hj, ha, if_true, hf, hx, hl]
theorem ixN_nat {n j : Nat} (h : j < n) : ixN n (j : Int) = some j := by
  unfold ixN
  rw [if_pos (by omega), if_pos (by omega)]; rfl
theorem e_tup0 {f : FE} {r : Env} {a b : Int} (h : f r = .ok (.nw (.fz (fD (a, b))))) : eIx f (eC (.int 0)) r = .ok (.nw (I a)) := by
  rw [ix_nw h (eC_ev _) (d := .int a)]
  rfl
theorem e_tup1 {f : FE} {r : Env} {a b : Int} (h : f r = .ok (.nw (.fz (fD (a, b))))) : eIx f (eC (.int 1)) r = .ok (.nw (I b)) := by
  rw [ix_nw h (eC_ev _) (d := .int b)]
  rfl
theorem e_tup {f g : FE} {r : Env} {a b : Int} (h : f r = .ok (.nw (I a))) (h2 : g r = .ok (.nw (I b))) : eTup (aCons f (aCons g aNil)) r = .ok (.nw (.fz (fD (a, b)))) := by
  simp only [eTup, aCons_ev, h, h2, res_ok, aNil_ev]; rfl
theorem er_oV (vs : List (Int × Int)) : er (.ls (vs.map fun p => .fz (fD p))) = VD vs := by
  rw [er_ls, ers_eq, List.map_map]; rfl
theorem allFz_oV (vs : List (Int × Int)) : allFz (vs.map fun p => .fz (fD p)) = true := by induction vs with
  | nil => rfl
  | cons x xs ih => exact ih
theorem rng2_go {fs : Env → Res (List O)} {r : Env} {a b : Int} (h : fs r = .ok [I a, I b]) (h1 : -(2 ^ 62) ≤ a) (h2 : a < 2 ^ 62) (h3 : -(2 ^ 62) ≤ b) (h4 : b < 2 ^ 62) : iRng rng2 fs r = .ok ((List.range (b - a).toNat).map fun (k : Nat) => intR (a + (k : Nat))) := by
  rw [iRng_ev, h, res_ok, rng2_ok h1 h2 h3 h4]; rfl
theorem plain_tup {n : Nat} {ds : List D} (h : ds.all (plainD n) = true) : plainD (n + 1) (.tup ds) = true := h
abbrev T3 := Int × Int × Int
abbrev t3 (f : T3) : D := .tup [.int f.1, .int f.2.1, .int f.2.2]
def dif3 (h l : T3) : T3 := (h.1 - l.1, h.2.1 - l.2.1, h.2.2 - l.2.2)
inductive Pt where | ch (h l : T3) | wt (f : T3) | pw (f : Int × Int) | gr (f : Int × Int)
def ptD : Pt → D
  | .ch h l => .tup [.str "choose", t3 h, t3 l]
  | .wt f => .tup [.str "weight", t3 f]
  | .pw f => .tup [.str "power", fD f]
  | .gr f => .tup [.str "growth", fD f]
def ptO : Pt → O
  | .ch h l => .ob "Choose" ["high", "lows"] [.fz (t3 h), .ls [.fz (t3 l), .fz (t3 (dif3 h l))]]
  | .wt f => .ob "Weight" ["form"] [.fz (t3 f)]
  | .pw f => .ob "Power" ["fraction"] [.fz (fD f)]
  | .gr f => .ob "Growth" ["fraction"] [.fz (fD f)]
def TF_form : List PySem.Str := ["Weight"]
def TF_fraction : List PySem.Str := ["Power", "Growth"]
def TF_high : List PySem.Str := ["Choose"]
def TF_lows : List PySem.Str := ["Choose"]
def TF_made : List PySem.Str := ["Term"]
def TF_words : List PySem.Str := ["Term"]
noncomputable def B__law_mixed : FS := (sSeq (sIf (tOf (eOp gEq (eOp gMod (eVar 0) (eC (.int 2))) (eC (.int 0)))) (sSeq (sSet 2 false (eOp gDiv (eB gAbs (aCons (eVar 0) aNil)) (eC (.int 2)))) (sSeq (sFor (iRng rng1 (aCons (eVar 1) aNil)) (gN 3) (sSet 2 false (eOp gDiv (eVar 2) (eOp gPow (eC (.int 10)) (eC (.int 12)))))) (sRet (eVar 2)))) sNil) (sSeq (sSet 2 false (eOp gMod (eOp gAddA (eVar 0) (eOp gMulA (eC (.int 7919)) (eVar 1))) (eC (.int 2147483629)))) (sSeq (sSet 2 false (eOp gMod (eOp gAddA (eOp gAddA (eOp gMulA (eVar 2) (eVar 2)) (eOp gMulA (eC (.int 16807)) (eVar 2))) (eVar 1)) (eC (.int 2147483629)))) (sRet (eOp gMod (eOp gMulA (eVar 2) (eVar 2)) (eC (.int 2147483587)))))))
noncomputable abbrev M__law_mixed : List O → Res O := runF 4 B__law_mixed
noncomputable def B__law_cell_at : FS := (sSeq (sIf (tOf (eOp gLt (eVar 1) (eB gLen (aCons (eVar 0) aNil)))) (sRet (eIx (eVar 0) (eVar 1))) sNil) (sRet (eC (.int 0))))
noncomputable def B_Choose___init__ : FS := (sSeq (sFldM TF_high 0 "high" (eVar 1)) (sFldM TF_lows 0 "lows" (eLst (aCons (eVar 2) (aCons (eTup (aCons (eOp gSub (eIx (eVar 1) (eC (.int 0))) (eIx (eVar 2) (eC (.int 0)))) (aCons (eOp gSub (eIx (eVar 1) (eC (.int 1))) (eIx (eVar 2) (eC (.int 1)))) (aCons (eOp gSub (eIx (eVar 1) (eC (.int 2))) (eIx (eVar 2) (eC (.int 2)))) aNil)))) aNil)))))
noncomputable def M_Choose___init__ : List O → Res O := fun os => mI fun a => runI 3 "Choose" B_Choose___init__ a os
theorem imp_Choose___init__ (a : PySem.Addr) : ∀ os : List O, os.length = 2 → M_Choose___init__ os = .bad ∨ M_Choose___init__ os = runI 3 "Choose" B_Choose___init__ a os := fun os _ => mI_imp a
noncomputable def B_Weight___init__ : FS := (sFldM TF_form 0 "form" (eVar 1))
noncomputable def M_Weight___init__ : List O → Res O := fun os => mI fun a => runI 2 "Weight" B_Weight___init__ a os
theorem imp_Weight___init__ (a : PySem.Addr) : ∀ os : List O, os.length = 1 → M_Weight___init__ os = .bad ∨ M_Weight___init__ os = runI 2 "Weight" B_Weight___init__ a os := fun os _ => mI_imp a
noncomputable def B_Power___init__ : FS := (sFldM TF_fraction 0 "fraction" (eVar 1))
noncomputable def M_Power___init__ : List O → Res O := fun os => mI fun a => runI 2 "Power" B_Power___init__ a os
theorem imp_Power___init__ (a : PySem.Addr) : ∀ os : List O, os.length = 1 → M_Power___init__ os = .bad ∨ M_Power___init__ os = runI 2 "Power" B_Power___init__ a os := fun os _ => mI_imp a
noncomputable def B_Growth___init__ : FS := (sFldM TF_fraction 0 "fraction" (eVar 1))
noncomputable def M_Growth___init__ : List O → Res O := fun os => mI fun a => runI 2 "Growth" B_Growth___init__ a os
theorem imp_Growth___init__ (a : PySem.Addr) : ∀ os : List O, os.length = 1 → M_Growth___init__ os = .bad ∨ M_Growth___init__ os = runI 2 "Growth" B_Growth___init__ a os := fun os _ => mI_imp a
noncomputable def B_within : FS := (sSeq (sIf (tOrD (tOf (eOp gLt (eB gMinT (aCons (eSlT (eVar 0) pNone (pSome (eC (.int 2)))) aNil)) (eVar 1))) (tOf (eOp gGt (eB gMaxT (aCons (eSlT (eVar 0) pNone (pSome (eC (.int 2)))) aNil)) (eVar 2)))) (sRet (eC (.bl false))) sNil) (sRet (eAnd (eOp gLe (eB gAbs (aCons (eIx (eVar 0) (eC (.int 2))) aNil)) (eVar 3)) (eOr (eOp gLt (eVar 1) (eC (.int 0))) (eOp gGe (eIx (eVar 0) (eC (.int 2))) (eC (.int 0)))))))
noncomputable abbrev M_within : List O → Res O := runF 4 B_within
noncomputable def B_Part_up : FS := (sRet (eDspT (((eTup (aCons (eC (.int 0)) (aCons (eC (.int 0)) aNil))), (eC (.int 1))) :: [])))
noncomputable abbrev M_Part_up : List O → Res O := runF 2 B_Part_up
noncomputable def B_Power_up : FS := (sRet (eDspT (((eTup (aCons (eC (.int 0)) (aCons (eC (.int 0)) aNil))), (eIx (eFld TF_fraction "fraction" (eVar 0)) (eC (.int 0)))) :: [])))
noncomputable abbrev M_Power_up : List O → Res O := runF 2 B_Power_up
noncomputable def B_Part_down : FS := (sRet (eDspT (((eTup (aCons (eC (.int 0)) (aCons (eC (.int 0)) aNil))), (eC (.int 1))) :: [])))
noncomputable abbrev M_Part_down : List O → Res O := runF 2 B_Part_down
noncomputable def B_Power_down : FS := (sRet (eDspT (((eTup (aCons (eC (.int 0)) (aCons (eC (.int 0)) aNil))), (eIx (eFld TF_fraction "fraction" (eVar 0)) (eC (.int 1)))) :: [])))
noncomputable abbrev M_Power_down : List O → Res O := runF 2 B_Power_down
noncomputable def B_Part_step : FS := (sRet (eDspT (((eTup (aCons (eC (.int 0)) (aCons (eC (.int 0)) aNil))), (eC (.int 1))) :: [])))
noncomputable abbrev M_Part_step : List O → Res O := runF 3 B_Part_step
noncomputable def B_raised : FS := (sSeq (sSet 2 false (eC (.int 1))) (sSeq (sSet 3 false (eC (.int 1))) (sSeq (sFor (iRng rng1 (aCons (eVar 1) aNil)) (gN 4) (sSeq (sAug 2 gMul (eIx (eVar 0) (eC (.int 0)))) (sAug 3 gMul (eIx (eVar 0) (eC (.int 1)))))) (sRet (eTup (aCons (eVar 2) (aCons (eVar 3) aNil)))))))
noncomputable abbrev M_raised : List O → Res O := runF 5 B_raised
noncomputable def B_without_noughts : FS := (sSeq (sSet 1 true eDNew) (sSeq (sForDI 0 2 3 (sIf (tOf (eOp gNe (eVar 3) (eC (.int 0)))) (sDPutL 1 (eVar 3) (eVar 2)) sNil)) (sRetV 1)))
noncomputable abbrev M_without_noughts : List O → Res O := runF 4 B_without_noughts
noncomputable def B_Choose_raised_lows : FS := (sRet (eLcD (iLst (eFld TF_lows "lows" (eVar 0))) (gN 2) [2] tYesD (eTup (aCons (eIx (eVar 2) (eC (.int 0))) (aCons (eIx (eVar 2) (eC (.int 1))) (aCons (eOp gAddA (eIx (eVar 2) (eC (.int 2))) (eOp gMulA (eVar 1) (eB gMax2 (aCons (eC (.int 0)) (aCons (eIx (eVar 2) (eC (.int 0))) aNil))))) aNil))))))
noncomputable abbrev M_Choose_raised_lows : List O → Res O := runF 3 B_Choose_raised_lows
noncomputable def B__law_pair_at : FS := (sSeq (sSet 3 false (eLst (aCons (eC (.int 0)) (aCons (eC (.int 0)) aNil)))) (sSeq (sForDK 0 4 (sSet 3 false (eLst (aCons (eB gMax2 (aCons (eIx (eVar 3) (eC (.int 0))) (aCons (eIx (eVar 4) (eC (.int 0))) aNil))) (aCons (eB gMax2 (aCons (eIx (eVar 3) (eC (.int 1))) (aCons (eIx (eVar 4) (eC (.int 1))) aNil))) aNil))))) (sSeq (sSet 5 true (eLstO (aConsO (eLst (aCons (eC (.int 1)) aNil)) (aConsO (eLst (aCons (eC (.int 1)) aNil)) aNilO)))) (sSeq (sFor (iRng rng1 (aCons (eIx (eVar 3) (eC (.int 0))) aNil)) (gN 6) (sApp1 5 (eC (.int 0)) (eOp gMulA (eIx (eIx (eVar 5) (eC (.int 0))) (eUn gNeg (eC (.int 1)))) (eVar 1)))) (sSeq (sFor (iRng rng1 (aCons (eIx (eVar 3) (eC (.int 1))) aNil)) (gN 6) (sApp1 5 (eC (.int 1)) (eOp gMulA (eIx (eIx (eVar 5) (eC (.int 1))) (eUn gNeg (eC (.int 1)))) (eVar 2)))) (sSeq (sSet 7 false (eC (.int 0))) (sSeq (sForDI 0 4 8 (sSet 7 false (eOp gAddA (eVar 7) (eOp gMulA (eOp gMulA (eVar 8) (eIx (eIx (eVar 5) (eC (.int 0))) (eIx (eVar 4) (eC (.int 0))))) (eIx (eIx (eVar 5) (eC (.int 1))) (eIx (eVar 4) (eC (.int 1)))))))) (sRet (eVar 7)))))))))
noncomputable abbrev M__law_pair_at : List O → Res O := runF 9 B__law_pair_at
noncomputable def B_form_value : FS := (sRet (eOp gAddA (eOp gAddA (eOp gMulA (eIx (eVar 0) (eC (.int 0))) (eVar 1)) (eOp gMulA (eIx (eVar 0) (eC (.int 1))) (eVar 2))) (eIx (eVar 0) (eC (.int 2)))))
noncomputable abbrev M_form_value : List O → Res O := runF 3 B_form_value
noncomputable def B_factorial : FS := (sSeq (sSet 1 false (eC (.int 1))) (sSeq (sFor (iRng rng2 (aCons (eC (.int 2)) (aCons (eOp gAddA (eVar 0) (eC (.int 1))) aNil))) (gN 2) (sAug 1 gMul (eVar 2))) (sRet (eVar 1))))
noncomputable abbrev M_factorial : List O → Res O := runF 3 B_factorial
noncomputable def B_divisor : FS := (sSeq (sSet 0 false (eB gAbs (aCons (eVar 0) aNil))) (sSeq (sSet 1 false (eB gAbs (aCons (eVar 1) aNil))) (sSeq (sWh (fun r => slotN 1 r + 1) (tOf (eOp gGt (eVar 1) (eC (.int 0)))) (sSeq (sSet 2 false (eOp gMod (eVar 0) (eVar 1))) (sSeq (sSet 0 false (eVar 1)) (sSet 1 false (eVar 2))))) (sRet (eVar 0)))))
noncomputable def B_Part_floor : FS := (sRet (eTup (aCons (eC (.int 1)) (aCons (eC (.int 1)) aNil))))
noncomputable abbrev M_Part_floor : List O → Res O := runF 4 B_Part_floor
noncomputable def B__law_whole : FS := (sRet (eAnd (eIsi .int (eVar 0)) (eNot (eIsi .bl (eVar 0)))))
noncomputable def B__law_forms : FS := (sSeq (sSet 3 false (eTup (aCons (eOp gMod (eVar 0) (eOp gAddA (eVar 2) (eC (.int 1)))) (aCons (eOp gMod (eOp gDiv (eVar 0) (eC (.int 4))) (eOp gAddA (eVar 2) (eC (.int 1)))) (aCons (eOp gMod (eOp gDiv (eVar 0) (eC (.int 16))) (eC (.int 10))) aNil))))) (sSeq (sIf (tOf (eOp gEq (eOp gMod (eOp gDiv (eVar 0) (eC (.int 160))) (eC (.int 2))) (eC (.int 0)))) (sSet 4 false (eTup (aCons (eOp gMod (eVar 1) (eOp gAddA (eIx (eVar 3) (eC (.int 0))) (eC (.int 1)))) (aCons (eOp gSub (eOp gMod (eOp gDiv (eVar 1) (eC (.int 4))) (eC (.int 3))) (eC (.int 1))) (aCons (eOp gMod (eOp gDiv (eVar 1) (eC (.int 12))) (eOp gAddA (eIx (eVar 3) (eC (.int 2))) (eC (.int 1)))) aNil))))) (sSet 4 false (eTup (aCons (eOp gSub (eOp gMod (eVar 1) (eOp gAddA (eOp gMulA (eC (.int 2)) (eVar 2)) (eC (.int 1)))) (eVar 2)) (aCons (eOp gSub (eOp gMod (eOp gDiv (eVar 1) (eC (.int 7))) (eOp gAddA (eOp gMulA (eC (.int 2)) (eVar 2)) (eC (.int 1)))) (eVar 2)) (aCons (eOp gSub (eOp gMod (eOp gDiv (eVar 1) (eC (.int 49))) (eC (.int 19))) (eC (.int 9))) aNil)))))) (sSeq (sIf (tAndD (tOf (eOp gEq (eIx (eVar 4) (eC (.int 0))) (eC (.int 0)))) (tOf (eOp gLt (eIx (eVar 4) (eC (.int 1))) (eC (.int 0))))) (sSet 4 false (eTup (aCons (eC (.int 0)) (aCons (eUn gNeg (eIx (eVar 4) (eC (.int 1)))) (aCons (eIx (eVar 4) (eC (.int 2))) aNil))))) sNil) (sSeq (sIf (tAndD (tOf (eOp gEq (eIx (eVar 4) (eC (.int 0))) (eIx (eVar 3) (eC (.int 0))))) (tOf (eOp gGt (eIx (eVar 4) (eC (.int 1))) (eIx (eVar 3) (eC (.int 1)))))) (sSet 4 false (eTup (aCons (eIx (eVar 4) (eC (.int 0))) (aCons (eIx (eVar 3) (eC (.int 1))) (aCons (eIx (eVar 4) (eC (.int 2))) aNil))))) sNil) (sRet (eTup (aCons (eC (.str "choose")) (aCons (eVar 3) (aCons (eVar 4) aNil)))))))))
noncomputable abbrev M__law_forms : List O → Res O := runF 5 B__law_forms
noncomputable def B__law_number : FS := (sSeq (sIf (tOf (eOp gEq (eOp gMod (eVar 0) (eC (.int 3))) (eC (.int 0)))) (sRet (eOp gAddA (eOp gSub (eOp gMod (eOp gDiv (eVar 0) (eC (.int 3))) (eOp gSub (eOp gMulA (eC (.int 2)) (eVar 1)) (eC (.int 1)))) (eVar 1)) (eC (.int 1)))) sNil) (sSeq (sIf (tOf (eOp gEq (eOp gMod (eVar 0) (eC (.int 3))) (eC (.int 1)))) (sRet (eOp gSub (eOp gMod (eOp gDiv (eVar 0) (eC (.int 3))) (eC (.int 2001))) (eC (.int 1000)))) sNil) (sRet (eOp gSub (eOp gMod (eOp gDiv (eVar 0) (eC (.int 3))) (eC (.int 5))) (eC (.int 2))))))
noncomputable def B__law_divisor : FS := (sSeq (sSet 0 false (eB gAbs (aCons (eVar 0) aNil))) (sSeq (sSet 1 false (eB gAbs (aCons (eVar 1) aNil))) (sSeq (sWh (fun r => slotN 0 r + 1) (tOf (eOp gNe (eVar 0) (eC (.int 0)))) (sSeq (sSet 2 false (eOp gMod (eVar 1) (eVar 0))) (sSeq (sSet 1 false (eVar 0)) (sSet 0 false (eVar 2))))) (sRet (eVar 1)))))
noncomputable def B_is_choose : FS := (sSeq (sIf (tOrD (tNotD (tOf (eCall M_within (aCons (eVar 0) (aCons (eC (.int 0)) (aCons (eC (.int 3)) (aCons (eC (.int 9)) aNil))))))) (tNotD (tOf (eCall M_within (aCons (eVar 1) (aCons (eUn gNeg (eC (.int 3))) (aCons (eC (.int 3)) (aCons (eC (.int 9)) aNil)))))))) (sRet (eC (.bl false))) sNil) (sSeq (sFor (iLst (eLst (aCons (eVar 1) (aCons (eTup (aCons (eOp gSub (eIx (eVar 0) (eC (.int 0))) (eIx (eVar 1) (eC (.int 0)))) (aCons (eOp gSub (eIx (eVar 0) (eC (.int 1))) (eIx (eVar 1) (eC (.int 1)))) (aCons (eOp gSub (eIx (eVar 0) (eC (.int 2))) (eIx (eVar 1) (eC (.int 2)))) aNil)))) aNil)))) (gN 2) (sIf (tAndD (tOf (eOp gEq (eIx (eVar 2) (eC (.int 0))) (eC (.int 0)))) (tOf (eOp gLt (eIx (eVar 2) (eC (.int 1))) (eC (.int 0))))) (sRet (eC (.bl false))) sNil)) (sRet (eC (.bl true)))))
noncomputable abbrev M_is_choose : List O → Res O := runF 3 B_is_choose
noncomputable def B_pair_times : FS := (sSeq (sSet 2 true eDNew) (sSeq (sForDI 0 3 4 (sForDI 1 5 6 (sSeq (sSet 7 false (eTup (aCons (eOp gAddA (eIx (eVar 3) (eC (.int 0))) (eIx (eVar 5) (eC (.int 0)))) (aCons (eOp gAddA (eIx (eVar 3) (eC (.int 1))) (eIx (eVar 5) (eC (.int 1)))) aNil)))) (sDPutL 2 (eOp gAddA (eDGet2 2 (eVar 7) 0) (eOp gMulA (eVar 4) (eVar 6))) (eVar 7))))) (sRet (eCall M_without_noughts (aCons (eVar 2) aNil)))))
noncomputable abbrev M_pair_times : List O → Res O := runF 8 B_pair_times
noncomputable def B_Growth_step : FS := (sRet (eDspT (((eTup (aCons (eC (.int 0)) (aCons (eC (.int 0)) aNil))), (eOp gMulA (eIx (eCall M_raised (aCons (eFld TF_fraction "fraction" (eVar 0)) (aCons (eVar 1) aNil))) (eC (.int 0))) (eIx (eCall M_raised (aCons (eFld TF_fraction "fraction" (eVar 0)) (aCons (eOp gSub (eVar 2) (eVar 1)) aNil))) (eC (.int 1))))) :: [])))
noncomputable abbrev M_Growth_step : List O → Res O := runF 3 B_Growth_step
noncomputable def B_pair_of_form : FS := (sRet (eCall M_without_noughts (aCons (eDspT (((eTup (aCons (eC (.int 1)) (aCons (eC (.int 0)) aNil))), (eIx (eVar 0) (eC (.int 0)))) :: (((eTup (aCons (eC (.int 0)) (aCons (eC (.int 1)) aNil))), (eIx (eVar 0) (eC (.int 1)))) :: (((eTup (aCons (eC (.int 0)) (aCons (eC (.int 0)) aNil))), (eIx (eVar 0) (eC (.int 2)))) :: [])))) aNil)))
noncomputable abbrev M_pair_of_form : List O → Res O := runF 1 B_pair_of_form
noncomputable def B__law_is_fraction : FS := (sSeq (sIf (tOrD (tNotD (tOf (eIsi .tup (eVar 0)))) (tOf (eOp gNe (eB gLen (aCons (eVar 0) aNil)) (eC (.int 2))))) (sRet (eC (.bl false))) sNil) (sRet (eAnd (eCall M__law_whole (aCons (eIx (eVar 0) (eC (.int 0))) aNil)) (eAnd (eCall M__law_whole (aCons (eIx (eVar 0) (eC (.int 1))) aNil)) (eOp gGt (eIx (eVar 0) (eC (.int 1))) (eC (.int 0)))))))
noncomputable abbrev M__law_is_fraction : List O → Res O := runF 1 B__law_is_fraction
noncomputable def B_Weight_worth : FS := (sRet (eTup (aCons (eCall M_form_value (aCons (eFld TF_form "form" (eVar 0)) (aCons (eVar 1) (aCons (eVar 2) aNil)))) (aCons (eC (.int 1)) aNil))))
noncomputable abbrev M_Weight_worth : List O → Res O := runF 3 B_Weight_worth
noncomputable def B_Power_worth : FS := (sRet (eCall M_raised (aCons (eFld TF_fraction "fraction" (eVar 0)) (aCons (eVar 2) aNil))))
noncomputable abbrev M_Power_worth : List O → Res O := runF 3 B_Power_worth
noncomputable def B_Growth_worth : FS := (sRet (eCall M_raised (aCons (eFld TF_fraction "fraction" (eVar 0)) (aCons (eVar 1) aNil))))
noncomputable abbrev M_Growth_worth : List O → Res O := runF 3 B_Growth_worth
noncomputable def B_Power_floor : FS := (sRet (eCall M_raised (aCons (eFld TF_fraction "fraction" (eVar 0)) (aCons (eVar 2) aNil))))
noncomputable abbrev M_Power_floor : List O → Res O := runF 4 B_Power_floor
noncomputable def B__law_ratio : FS := (sSeq (sSet 2 false (eCall M__law_number (aCons (eVar 0) (aCons (eOp gPow (eC (.int 10)) (eC (.int 20))) aNil)))) (sSeq (sIf (tOf (eOp gEq (eVar 2) (eC (.int 0)))) (sSet 2 false (eC (.int 1))) sNil) (sSeq (sSet 3 false (eCall M__law_mixed (aCons (eVar 1) (aCons (eC (.int 3)) aNil)))) (sSeq (sSet 4 false (eIx (eLst (aCons (eC (.int 1)) (aCons (eOp gAddA (eC (.int 1)) (eOp gMod (eOp gDiv (eVar 3) (eC (.int 3))) (eC (.int 9)))) (aCons (eOp gAddA (eC (.int 1)) (eOp gMod (eOp gDiv (eVar 3) (eC (.int 3))) (eOp gPow (eC (.int 10)) (eC (.int 6))))) aNil)))) (eOp gMod (eVar 3) (eC (.int 3))))) (sSeq (sSet 5 false (eCall M__law_divisor (aCons (eVar 2) (aCons (eVar 4) aNil)))) (sRet (eTup (aCons (eOp gDiv (eVar 2) (eVar 5)) (aCons (eOp gDiv (eVar 4) (eVar 5)) aNil)))))))))
noncomputable abbrev M__law_ratio : List O → Res O := runF 6 B__law_ratio
noncomputable def B_made_part : FS := (sSeq (sSet 1 false (eIx (eVar 0) (eC (.int 0)))) (sSeq (sIf (tAndD (tOf (eOp gEq (eVar 1) (eC (.str "choose")))) (tOf (eCall M_is_choose (aCons (eIx (eVar 0) (eC (.int 1))) (aCons (eIx (eVar 0) (eC (.int 2))) aNil))))) (sRet (eMake M_Choose___init__ (aCons (eIx (eVar 0) (eC (.int 1))) (aCons (eIx (eVar 0) (eC (.int 2))) aNil)))) sNil) (sSeq (sIf (tOf (eOp gEq (eVar 1) (eC (.str "weight")))) (sRet (eMake M_Weight___init__ (aCons (eIx (eVar 0) (eC (.int 1))) aNil))) sNil) (sSeq (sIf (tAndD (tOf (eOp gEq (eVar 1) (eC (.str "power")))) (tOf (eOp gNe (eIx (eIx (eVar 0) (eC (.int 1))) (eC (.int 0))) (eC (.int 0))))) (sRet (eMake M_Power___init__ (aCons (eIx (eVar 0) (eC (.int 1))) aNil))) sNil) (sSeq (sIf (tAndD (tOf (eOp gEq (eVar 1) (eC (.str "growth")))) (tOf (eOp gNe (eIx (eIx (eVar 0) (eC (.int 1))) (eC (.int 0))) (eC (.int 0))))) (sRet (eMake M_Growth___init__ (aCons (eIx (eVar 0) (eC (.int 1))) aNil))) sNil) (sRaise "NoTerm"))))))
noncomputable abbrev M_made_part : List O → Res O := runF 2 B_made_part
noncomputable def B_Weight_step : FS := (sRet (eCall M_pair_of_form (aCons (eTup (aCons (eIx (eFld TF_form "form" (eVar 0)) (eC (.int 0))) (aCons (eIx (eFld TF_form "form" (eVar 0)) (eC (.int 1))) (aCons (eOp gAddA (eIx (eFld TF_form "form" (eVar 0)) (eC (.int 2))) (eOp gMulA (eVar 1) (eIx (eFld TF_form "form" (eVar 0)) (eC (.int 0))))) aNil)))) aNil)))
noncomputable abbrev M_Weight_step : List O → Res O := runF 3 B_Weight_step
noncomputable def B_rising : FS := (sSeq (sSet 3 false (eDspT (((eTup (aCons (eC (.int 0)) (aCons (eC (.int 0)) aNil))), (eC (.int 1))) :: []))) (sSeq (sFor (iRng rng2 (aCons (eVar 1) (aCons (eOp gAddA (eVar 2) (eC (.int 1))) aNil))) (gN 4) (sSet 3 false (eCall M_pair_times (aCons (eVar 3) (aCons (eCall M_pair_of_form (aCons (eTup (aCons (eIx (eVar 0) (eC (.int 0))) (aCons (eIx (eVar 0) (eC (.int 1))) (aCons (eOp gAddA (eIx (eVar 0) (eC (.int 2))) (eVar 4)) aNil)))) aNil)) aNil))))) (sRet (eVar 3))))
noncomputable abbrev M_rising : List O → Res O := runF 5 B_rising
noncomputable def B__law_part : FS := (sSeq (sSet 2 false (eOp gMod (eCall M__law_mixed (aCons (eIx (eVar 0) (eC (.int 0))) (aCons (eC (.int 0)) aNil))) (eC (.int 8)))) (sSeq (sIf (tAndD (tOf (eOp gLt (eVar 2) (eC (.int 4)))) (tOf (eOp gGt (eVar 1) (eC (.int 0))))) (sRet (eCall M__law_forms (aCons (eCall M__law_mixed (aCons (eIx (eVar 0) (eC (.int 1))) (aCons (eC (.int 1)) aNil))) (aCons (eCall M__law_mixed (aCons (eIx (eVar 0) (eC (.int 2))) (aCons (eC (.int 2)) aNil))) (aCons (eVar 1) aNil))))) sNil) (sSeq (sIf (tOf (eOp gEq (eVar 2) (eC (.int 6)))) (sRet (eTup (aCons (eC (.str "power")) (aCons (eCall M__law_ratio (aCons (eIx (eVar 0) (eC (.int 1))) (aCons (eIx (eVar 0) (eC (.int 2))) aNil))) aNil)))) sNil) (sSeq (sIf (tOf (eOp gEq (eVar 2) (eC (.int 7)))) (sRet (eTup (aCons (eC (.str "growth")) (aCons (eCall M__law_ratio (aCons (eIx (eVar 0) (eC (.int 1))) (aCons (eIx (eVar 0) (eC (.int 2))) aNil))) aNil)))) sNil) (sRet (eTup (aCons (eC (.str "weight")) (aCons (eB gTup1 (aCons (eLcD (iLst (eVar 0)) (gN 3) [3] tYesD (eCall M__law_number (aCons (eVar 3) (aCons (eOp gPow (eC (.int 10)) (eC (.int 60))) aNil)))) aNil)) aNil))))))))
noncomputable abbrev M__law_part : List O → Res O := runF 4 B__law_part
noncomputable def B__law_parts : FS := (sSeq (sSet 2 true (eLst aNil)) (sSeq (sFor (iRng rng1 (aCons (eOp gAddA (eC (.int 1)) (eOp gMod (eCall M__law_cell_at (aCons (eVar 0) (aCons (eC (.int 0)) aNil))) (eC (.int 6)))) aNil)) (gN 3) (sSeq (sSet 4 false (eCall M__law_part (aCons (eLcD (iRng rng1 (aCons (eC (.int 3)) aNil)) (gN 5) [5] tYesD (eCall M__law_cell_at (aCons (eVar 0) (aCons (eOp gAddA (eOp gAddA (eC (.int 1)) (eOp gMulA (eC (.int 3)) (eVar 3))) (eVar 5)) aNil)))) (aCons (eIx (eVar 1) (eC (.int 0))) aNil)))) (sSeq (sIf (tOf (eOp gEq (eIx (eVar 4) (eC (.int 0))) (eC (.str "choose")))) (sSet 1 false (eOp gAddA (eSl (eVar 1) (pSome (eC (.int 1))) pNone) (eLst (aCons (eC (.int 0)) aNil)))) sNil) (sApp 2 (eVar 4))))) (sRetV 2)))
noncomputable abbrev M__law_parts : List O → Res O := runF 6 B__law_parts
noncomputable def B_Term___init__ : FS := (sSeq (sIf (tOrD (tOf (eOp gEq (eVar 1) (eLst aNil))) (tOf (eOp gGt (eB gLen (aCons (eVar 1) aNil)) (eC (.int 6))))) (sRaise "NoTerm") sNil) (sSeq (sFldM TF_made 0 "made" (eLcD (iLst (eVar 1)) (gN 2) [2] tYesD (eCall M_made_part (aCons (eVar 2) aNil)))) (sFldM TF_words 0 "words" (eB gList (aCons (eVar 1) aNil)))))
noncomputable def M_Term___init__ : List O → Res O := fun os => mI fun a => runI 3 "Term" B_Term___init__ a os
theorem imp_Term___init__ (a : PySem.Addr) : ∀ os : List O, os.length = 1 → M_Term___init__ os = .bad ∨ M_Term___init__ os = runI 3 "Term" B_Term___init__ a os := fun os _ => mI_imp a
noncomputable def B_Choose_up : FS := (sSeq (sSet 2 false (eCall M_rising (aCons (eFld TF_high "high" (eVar 0)) (aCons (eC (.int 1)) (aCons (eIx (eFld TF_high "high" (eVar 0)) (eC (.int 1))) aNil))))) (sSeq (sFor (iLst (eMeth [("Choose", M_Choose_raised_lows)] "raised_lows" (eVar 0) (aCons (eVar 1) aNil))) (gN 3) (sSet 2 false (eCall M_pair_times (aCons (eVar 2) (aCons (eCall M_rising (aCons (eVar 3) (aCons (eOp gAddA (eIx (eVar 3) (eC (.int 1))) (eC (.int 1))) (aCons (eC (.int 0)) aNil)))) aNil))))) (sRet (eVar 2))))
noncomputable abbrev M_Choose_up : List O → Res O := runF 4 B_Choose_up
noncomputable def B_Choose_down : FS := (sSeq (sSet 2 false (eDspT (((eTup (aCons (eC (.int 0)) (aCons (eC (.int 0)) aNil))), (eC (.int 1))) :: []))) (sSeq (sFor (iLst (eMeth [("Choose", M_Choose_raised_lows)] "raised_lows" (eVar 0) (aCons (eVar 1) aNil))) (gN 3) (sSet 2 false (eCall M_pair_times (aCons (eVar 2) (aCons (eCall M_rising (aCons (eVar 3) (aCons (eC (.int 1)) (aCons (eIx (eVar 3) (eC (.int 1))) aNil)))) aNil))))) (sRet (eVar 2))))
noncomputable abbrev M_Choose_down : List O → Res O := runF 4 B_Choose_down
noncomputable def B_Choose_step : FS := (sSeq (sSet 3 false (eCall M_rising (aCons (eFld TF_high "high" (eVar 0)) (aCons (eC (.int 1)) (aCons (eOp gMulA (eVar 1) (eIx (eFld TF_high "high" (eVar 0)) (eC (.int 0)))) aNil))))) (sSeq (sFor (iLst (eFld TF_lows "lows" (eVar 0))) (gN 4) (sSet 3 false (eCall M_pair_times (aCons (eVar 3) (aCons (eCall M_rising (aCons (eVar 4) (aCons (eOp gAddA (eOp gMulA (eVar 1) (eIx (eVar 4) (eC (.int 0)))) (eC (.int 1))) (aCons (eB gMax2 (aCons (eC (.int 0)) (aCons (eOp gMulA (eVar 2) (eIx (eVar 4) (eC (.int 0)))) aNil))) aNil)))) aNil))))) (sRet (eVar 3))))
noncomputable abbrev M_Choose_step : List O → Res O := runF 5 B_Choose_step
noncomputable def B_Term_frame : FS := (sSeq (sSet 2 false (eLcD (iRng rng1 (aCons (eOp gAddA (eVar 1) (eC (.int 1))) aNil)) (gN 6) [6] tYesD (eDspT (((eTup (aCons (eC (.int 0)) (aCons (eC (.int 0)) aNil))), (eC (.int 1))) :: [])))) (sSeq (sSet 3 false (eDspT (((eTup (aCons (eC (.int 0)) (aCons (eC (.int 0)) aNil))), (eC (.int 1))) :: []))) (sSeq (sSet 4 false (eDspT (((eTup (aCons (eC (.int 0)) (aCons (eC (.int 0)) aNil))), (eC (.int 1))) :: []))) (sSeq (sFor (iLst (eFld TF_made "made" (eVar 0))) (gN 5) (sSeq (sSet 2 false (eLcD (iEnumD (eVar 2)) (gT [(gN 6), (gN 7)]) [6, 7] tYesD (eCall M_pair_times (aCons (eVar 7) (aCons (eMeth [("Choose", M_Choose_step), ("Weight", M_Weight_step), ("Power", M_Part_step), ("Growth", M_Growth_step)] "step" (eVar 5) (aCons (eVar 6) (aCons (eVar 1) aNil))) aNil))))) (sSeq (sSet 3 false (eCall M_pair_times (aCons (eVar 3) (aCons (eMeth [("Choose", M_Choose_up), ("Weight", M_Part_up), ("Power", M_Power_up), ("Growth", M_Part_up)] "up" (eVar 5) (aCons (eVar 1) aNil)) aNil)))) (sSet 4 false (eCall M_pair_times (aCons (eVar 4) (aCons (eMeth [("Choose", M_Choose_down), ("Weight", M_Part_down), ("Power", M_Power_down), ("Growth", M_Part_down)] "down" (eVar 5) (aCons (eVar 1) aNil)) aNil))))))) (sRet (eTup (aCons (eVar 2) (aCons (eVar 3) (aCons (eVar 4) aNil)))))))))
noncomputable abbrev M_Term_frame : List O → Res O := runF 8 B_Term_frame
noncomputable def B_ratio : FS := (sSeq (sIf (tOf (eOp gEq (eVar 1) (eC (.int 0)))) (sRaise "NoNumber") sNil) (sSeq (sSet 2 false (eCall M_divisor (aCons (eVar 0) (aCons (eVar 1) aNil)))) (sSeq (sIf (tOf (eOp gLt (eVar 1) (eC (.int 0)))) (sSet 2 false (eUn gNeg (eVar 2))) sNil) (sRet (eTup (aCons (eOp gDivU (eVar 0) (eVar 2)) (aCons (eOp gDivU (eVar 1) (eVar 2)) aNil)))))))
noncomputable def B_multiplied : FS := (sRet (eCall M_ratio (aCons (eOp gMulA (eIx (eVar 0) (eC (.int 0))) (eIx (eVar 1) (eC (.int 0)))) (aCons (eOp gMulA (eIx (eVar 0) (eC (.int 1))) (eIx (eVar 1) (eC (.int 1)))) aNil))))
noncomputable abbrev M_multiplied : List O → Res O := runF 2 B_multiplied
noncomputable def B_Choose_floor : FS := (sSeq (sSet 4 false (eC (.int 1))) (sSeq (sFor (iLst (eMeth [("Choose", M_Choose_raised_lows)] "raised_lows" (eVar 0) (aCons (eVar 3) aNil))) (gN 5) (sSeq (sSet 6 false (eCall M_form_value (aCons (eVar 5) (aCons (eVar 1) (aCons (eVar 2) aNil))))) (sSeq (sIf (tOf (eOp gLt (eVar 6) (eC (.int 0)))) (sRet (eTup (aCons (eC (.int 0)) (aCons (eC (.int 1)) aNil)))) sNil) (sAug 4 gMul (eCall M_factorial (aCons (eVar 6) aNil)))))) (sRet (eCall M_ratio (aCons (eCall M_factorial (aCons (eCall M_form_value (aCons (eFld TF_high "high" (eVar 0)) (aCons (eVar 1) (aCons (eVar 2) aNil)))) aNil)) (aCons (eVar 4) aNil))))))
noncomputable abbrev M_Choose_floor : List O → Res O := runF 7 B_Choose_floor
noncomputable def B_Growth_floor : FS := (sSeq (sAsgT (gT [(gN 4), (gN 5)]) (eCall M_raised (aCons (eFld TF_fraction "fraction" (eVar 0)) (aCons (eVar 1) aNil)))) (sRet (eCall M_ratio (aCons (eVar 4) (aCons (eOp gMulA (eVar 5) (eIx (eCall M_raised (aCons (eFld TF_fraction "fraction" (eVar 0)) (aCons (eVar 3) aNil))) (eC (.int 1)))) aNil)))))
noncomputable abbrev M_Growth_floor : List O → Res O := runF 6 B_Growth_floor
noncomputable def B_Term_floor : FS := (sSeq (sSet 4 false (eTup (aCons (eC (.int 1)) (aCons (eC (.int 1)) aNil)))) (sSeq (sFor (iLst (eFld TF_made "made" (eVar 0))) (gN 5) (sSet 4 false (eCall M_multiplied (aCons (eVar 4) (aCons (eMeth [("Choose", M_Choose_floor), ("Weight", M_Part_floor), ("Power", M_Power_floor), ("Growth", M_Growth_floor)] "floor" (eVar 5) (aCons (eVar 1) (aCons (eVar 2) (aCons (eVar 3) aNil)))) aNil))))) (sRet (eVar 4))))
noncomputable abbrev M_Term_floor : List O → Res O := runF 6 B_Term_floor
noncomputable def B_Choose_worth : FS := (sRet (eMeth [("Choose", M_Choose_floor)] "floor" (eVar 0) (aCons (eVar 1) (aCons (eVar 2) (aCons (eC (.int 0)) aNil)))))
noncomputable abbrev M_Choose_worth : List O → Res O := runF 3 B_Choose_worth
noncomputable def B_Term_worth : FS := (sSeq (sSet 3 false (eTup (aCons (eC (.int 1)) (aCons (eC (.int 1)) aNil)))) (sSeq (sFor (iLst (eFld TF_made "made" (eVar 0))) (gN 4) (sSet 3 false (eCall M_multiplied (aCons (eVar 3) (aCons (eMeth [("Choose", M_Choose_worth), ("Weight", M_Weight_worth), ("Power", M_Power_worth), ("Growth", M_Growth_worth)] "worth" (eVar 4) (aCons (eVar 1) (aCons (eVar 2) aNil))) aNil))))) (sRet (eVar 3))))
noncomputable abbrev M_Term_worth : List O → Res O := runF 5 B_Term_worth
noncomputable def B__law_holds : FS := (sSeq (sSet 5 false (eMeth [("Term", M_Term_floor)] "floor" (eVar 0) (aCons (eVar 3) (aCons (eVar 4) (aCons (eVar 2) aNil))))) (sSeq (sSet 6 false (eMeth [("Term", M_Term_floor)] "floor" (eVar 0) (aCons (eVar 3) (aCons (eOp gAddA (eVar 4) (eC (.int 1))) (aCons (eVar 2) aNil))))) (sSeq (sIf (tOrD (tNotD (tOf (eCall M__law_is_fraction (aCons (eVar 5) aNil)))) (tNotD (tOf (eCall M__law_is_fraction (aCons (eVar 6) aNil))))) (sRet (eC (.bl false))) sNil) (sSeq (sFor (iRng rng1 (aCons (eOp gAddA (eVar 2) (eC (.int 1))) aNil)) (gN 7) (sSeq (sSet 8 false (eMeth [("Term", M_Term_worth)] "worth" (eVar 0) (aCons (eOp gAddA (eVar 3) (eVar 7)) (aCons (eVar 4) aNil)))) (sSeq (sIf (tNotD (tOf (eCall M__law_is_fraction (aCons (eVar 8) aNil)))) (sRet (eC (.bl false))) sNil) (sIf (tOf (eOp gNe (eOp gMulA (eIx (eVar 8) (eC (.int 0))) (eIx (eVar 5) (eC (.int 1)))) (eOp gMulA (eOp gMulA (eCall M__law_pair_at (aCons (eIx (eIx (eVar 1) (eC (.int 0))) (eVar 7)) (aCons (eVar 3) (aCons (eVar 4) aNil)))) (eIx (eVar 5) (eC (.int 0)))) (eIx (eVar 8) (eC (.int 1)))))) (sRet (eC (.bl false))) sNil)))) (sSeq (sSet 9 false (eOp gMulA (eOp gMulA (eCall M__law_pair_at (aCons (eIx (eVar 1) (eC (.int 1))) (aCons (eVar 3) (aCons (eVar 4) aNil)))) (eIx (eVar 5) (eC (.int 0)))) (eIx (eVar 6) (eC (.int 1))))) (sRet (eOp gEq (eVar 9) (eOp gMulA (eOp gMulA (eCall M__law_pair_at (aCons (eIx (eVar 1) (eC (.int 2))) (aCons (eVar 3) (aCons (eVar 4) aNil)))) (eIx (eVar 6) (eC (.int 0)))) (eIx (eVar 5) (eC (.int 1)))))))))))
noncomputable abbrev M__law_holds : List O → Res O := runF 10 B__law_holds
noncomputable def B_law : FS := (sSeq (sSet 1 false (eCall M__law_parts (aCons (eVar 0) (aCons (eLst (aCons (eC (.int 3)) (aCons (eC (.int 1)) aNil))) aNil)))) (sSeq (sSet 2 false (eOp gMod (eCall M__law_mixed (aCons (eCall M__law_cell_at (aCons (eVar 0) (aCons (eC (.int 0)) aNil))) (aCons (eC (.int 5)) aNil))) (eC (.int 3)))) (sSeq (sSet 3 false (eMake M_Term___init__ (aCons (eVar 1) aNil))) (sSeq (sSet 4 false (eMeth [("Term", M_Term_frame)] "frame" (eVar 3) (aCons (eVar 2) aNil))) (sSeq (sSet 5 true (eLst (aCons (eTup (aCons (eC (.int 0)) (aCons (eC (.int 0)) aNil))) (aCons (eTup (aCons (eC (.int 0)) (aCons (eC (.int 1)) aNil))) (aCons (eTup (aCons (eC (.int 1)) (aCons (eC (.int 0)) aNil))) (aCons (eTup (aCons (eC (.int 1)) (aCons (eC (.int 1)) aNil))) aNil)))))) (sSeq (sFor (iLst (eSl (eVar 0) (pSome (eC (.int 19))) (pSome (eC (.int 30))))) (gN 6) (sSeq (sSet 7 false (eCall M__law_mixed (aCons (eVar 6) (aCons (eC (.int 6)) aNil)))) (sSeq (sSet 8 false (eC (.int 13))) (sSeq (sIf (tOf (eOp gEq (eOp gMod (eVar 7) (eC (.int 8))) (eC (.int 5)))) (sSet 8 false (eC (.int 31))) sNil) (sApp 5 (eTup (aCons (eOp gMod (eOp gDiv (eVar 7) (eC (.int 8))) (eVar 8)) (aCons (eOp gMod (eOp gDiv (eOp gDiv (eVar 7) (eC (.int 8))) (eVar 8)) (eVar 8)) aNil)))))))) (sSeq (sFrz 5) (sSeq (sFor (iLst (eVar 5)) (gT [(gN 9), (gN 10)]) (sIf (tNotD (tOf (eCall M__law_holds (aCons (eVar 3) (aCons (eVar 4) (aCons (eVar 2) (aCons (eVar 9) (aCons (eVar 10) aNil)))))))) (sRet (eC (.bl false))) sNil)) (sRet (eC (.bl true)))))))))))
theorem divisor_loop (n : Nat) : ∀ (a b : Nat) (x : S), b < n → ∃ y, whl (tOf (eOp gGt (eVar 1) (eC (.int 0)))) (sSeq (sSet 2 false (eOp gMod (eVar 0) (eVar 1))) (sSeq (sSet 0 false (eVar 1)) (sSet 1 false (eVar 2)))) n [VI a, VI b, x] = .nx [VI (Nat.gcd a b : Nat), VI 0, y] := by
  induction n with
  | zero => intro a b x h; omega
  | succ n ih =>
    intro a b x h
    by_cases hb : b = 0
    · subst hb
      exact ⟨x, by rw [whl_f (by simp [eVar])]; simp⟩
    · obtain ⟨y, hy⟩ := ih b (a % b) (VI (a % b : Nat)) (by have := Nat.mod_lt a (Nat.pos_of_ne_zero hb); omega)
      refine ⟨y, ?_⟩
      rw [gcd_turn] at hy
      rw [whl_t (r' := [VI b, VI (a % b : Nat), VI (a % b : Nat)]) (by simp [eVar]; omega) (by simp [eVar, gMod_ev (show (b : Int) ≠ 0 by omega), fmod_nat])]
      exact hy
theorem imp_divisor : ∀ os : List O, os.length = 2 → M_divisor os = .bad ∨ M_divisor os = runF 3 B_divisor os := by
  intro os h
  unfold M_divisor
  split
  · rename_i a b
    right
    obtain ⟨y, hy⟩ := divisor_loop (b.natAbs + 1) a.natAbs b.natAbs S.un (by omega)
    simp [runF, startE, B_divisor, eVar, sWh, slotN, absI_eq] at hy ⊢
    rw [hy]
    simp [gcdI, Int.gcd]
  · exact .inl rfl
theorem imp_ratio : ∀ os : List O, os.length = 2 → M_ratio os = .bad ∨ M_ratio os = runF 3 B_ratio os := by
  intro os h
  unfold M_ratio
  split
  · rename_i a b
    right
    by_cases hb : b = 0
    · subst hb; simp [runF, startE, B_ratio, eVar, sRaise]
    · rw [if_neg hb]
      have hs := sgcd_ne (a := a) hb
      by_cases hn : b < 0
      · have e : sgcd a b = -gcdI a b := if_pos hn
        rw [e] at hs
        simp [runF, startE, B_ratio, eVar, hb, hn, M_divisor, eTup, tupR, toDs, gDivU_ev hs, rtop, rbot, e]
      · have e : sgcd a b = gcdI a b := if_neg hn
        rw [e] at hs
        simp [runF, startE, B_ratio, eVar, hb, hn, M_divisor, eTup, tupR, toDs, gDivU_ev hs, rtop, rbot, e]
  · exact .inl rfl
theorem imp__law_cell_at : ∀ os : List O, os.length = 2 → M__law_cell_at os = .bad ∨ M__law_cell_at os = runF 2 B__law_cell_at os := by
  intro os h
  unfold M__law_cell_at
  split
  · rename_i ns k
    by_cases hk : 0 ≤ k
    · right
      rw [if_pos hk]
      symm
      by_cases hl : k < (ns.length : Int)
      · have a0 : eIx (eVar 0) (eVar 1) [.vl false (.fz (.scr ns)), .vl false (.fz (.int k))] = .ok (.nw (I ns[k.toNat])) := ix_scr (k := k) (by simp [eVar]) (by simp [eVar]) (by omega) (by omega)
        have e : cellAt ns k = ns[k.toNat] := by
          unfold cellAt
          rw [List.getD_eq_getElem?_getD, List.getElem?_eq_getElem (by omega)]
          rfl
        rw [e]
        exact run_ret (seq_ret (if_t (by simp [eVar, startE, hl]) (ret_go a0)))
      · have e : cellAt ns k = 0 := by
          unfold cellAt
          rw [List.getD_eq_getElem?_getD, List.getElem?_eq_none (by omega)]
          rfl
        rw [e]
        refine run_ret (seq_go (if_f (by simp [eVar, startE]; omega) rfl) (by simp))
    · left; rw [if_neg hk]
  · exact .inl rfl
theorem imp__law_number : ∀ os : List O, os.length = 2 → M__law_number os = .bad ∨ M__law_number os = runF 2 B__law_number os := by
  intro os h
  unfold M__law_number
  split
  · rename_i i m
    by_cases hm : 1000 < m ∧ m < 2 ^ 300
    · right
      rw [if_pos hm]
      have eM : gMulA (.fz (.int 2)) (.fz (.int m)) = .ok (.nw (.fz (.int (2 * m)))) := gMul_lt 2 300 (by decide) (by omega) (by omega) (by omega) (by omega)
      have hz : 2 * m - 1 ≠ 0 := by omega
      by_cases h1 : i.fmod 3 = 0
      · simp [runF, startE, B__law_number, eVar, gMod_ev, gMod_ev hz, gDiv_pos, eM, lawNumM, h1]
      · by_cases h2 : i.fmod 3 = 1
        · simp [runF, startE, B__law_number, eVar, gMod_ev, gDiv_pos, lawNumM, h2]
        · simp [runF, startE, B__law_number, eVar, gMod_ev, gDiv_pos, lawNumM, h1, h2]
    · left; rw [if_neg hm]
  · exact .inl rfl
theorem imp__law_whole : ∀ os : List O, os.length = 1 → M__law_whole os = .bad ∨ M__law_whole os = runF 1 B__law_whole os := by
  intro os h
  unfold M__law_whole
  split
  · right; simp [runF, startE, B__law_whole, eVar, eAnd, eNot, onB, tyO, isT]
  · exact .inl rfl
theorem ldivisor_loop (n : Nat) : ∀ (a b : Nat) (x : S), a < n → ∃ y, whl (tOf (eOp gNe (eVar 0) (eC (.int 0)))) (sSeq (sSet 2 false (eOp gMod (eVar 1) (eVar 0))) (sSeq (sSet 1 false (eVar 0)) (sSet 0 false (eVar 2)))) n [VI a, VI b, x] = .nx [VI 0, VI (Nat.gcd a b : Nat), y] := by
  induction n with
  | zero => intro a b x h; omega
  | succ n ih =>
    intro a b x h
    by_cases hb : a = 0
    · subst hb
      exact ⟨x, by rw [whl_f (by simp [eVar])]; simp⟩
    · obtain ⟨y, hy⟩ := ih (b % a) a (VI (b % a : Nat)) (by have := Nat.mod_lt b (Nat.pos_of_ne_zero hb); omega)
      refine ⟨y, ?_⟩
      rw [Nat.gcd_comm, gcd_turn, Nat.gcd_comm] at hy
      rw [whl_t (r' := [VI (b % a : Nat), VI a, VI (b % a : Nat)]) (by simp [eVar]; omega) (by simp [eVar, gMod_ev (show (a : Int) ≠ 0 by omega), fmod_nat])]
      exact hy
theorem imp__law_divisor : ∀ os : List O, os.length = 2 → M__law_divisor os = .bad ∨ M__law_divisor os = runF 3 B__law_divisor os := by
  intro os h
  unfold M__law_divisor
  split
  · rename_i a b
    right
    obtain ⟨y, hy⟩ := ldivisor_loop (a.natAbs + 1) a.natAbs b.natAbs S.un (by omega)
    simp [runF, startE, B__law_divisor, eVar, sWh, slotN, absI_eq] at hy ⊢
    rw [hy]
    simp [gcdI, Int.gcd]
  · exact .inl rfl
theorem ix_t {f : FE} {r : Env} {ds : List D} {d : D} (k : Nat) (h : f r = .ok (.nw (.fz (.tup ds)))) (hd : ds[k]? = some d) : eIx f (eC (.int k)) r = .ok (.nw (.fz d)) := by
  have e : ixO (.fz (.tup ds)) (k : Int) = some (.fz d) := by
    show (atI ds (k : Int)).map O.fz = _
    rw [atI_ok (v := d) (by omega) (by rw [Int.toNat_natCast]; exact hd)]; rfl
  exact ix_nw h (eC_ev _) e
theorem mixed_ok (cc : Int) (k : Nat) (hk : k ≤ 1000) : ∃ m : Int, 0 ≤ m ∧ M__law_mixed [I cc, I k] = .ok (I m) := by
  by_cases h : cc.fmod 2 = 0
  · obtain ⟨r', e, m, x, hr, hm⟩ := forL_inv (fg := gN 3) (F := sSet 2 false (eOp gDiv (eVar 2) (eOp gPow (eC (.int 10)) (eC (.int 12))))) (its := (List.range k).map fun (j : Nat) => intR (j : Int)) (r := [.vl false (I cc), .vl false (I k), VI ((cc.natAbs : Int).fdiv 2), .un])
      (fun _ r => ∃ (m : Int) (x : S), r = [.vl false (I cc), .vl false (I k), VI m, x] ∧ 0 ≤ m) ⟨_, _, rfl, Int.fdiv_nonneg (by omega) (by omega)⟩ (fun i y r hy ⟨m, x, hr, hm⟩ => by
        subst hr
        obtain ⟨j, rfl⟩ : ∃ j : Nat, y = intR (j : Int) := by
          rw [List.getElem?_map] at hy
          cases hj : (List.range k)[i]? with
          | none => rw [hj] at hy; cases hy
          | some j => rw [hj] at hy; exact ⟨j, (Option.some.inj hy).symm⟩
        refine ⟨[.vl false (I cc), .vl false (I k), VI m, VI j], _, rfl, set_go (x := .nw (I (m.fdiv (10 ^ 12)))) ?_ rfl (by simp), _, _, rfl, Int.fdiv_nonneg hm (by decide)⟩
        rw [op_of (x := .nw (I m)) (y := .nw (I (10 ^ 12))) rfl rfl]
        exact gDiv_ev (by decide) (by decide))
    refine ⟨m, hm, ?_⟩
    subst hr
    show runF 4 B__law_mixed _ = _
    unfold B__law_mixed
    refine run_ret (seq_ret (if_t ?_ (seq_go (r' := [.vl false (I cc), .vl false (I k), VI ((cc.natAbs : Int).fdiv 2), .un]) (set_go (x := .nw (I ((cc.natAbs : Int).fdiv 2))) ?_ rfl (by simp [startE])) (seq_go (for_go (rng_ok rfl (by omega)) e) (ret_go rfl)))))
    · rw [t_eq (a := cc.fmod 2) (b := 0) (e_mod rfl (by decide)) (eC_ev _), h]; rfl
    · refine e_div ?_ (by decide) (by decide)
      rw [b1 (x := .nw (I cc)) rfl]
      show gAbs [I cc] = _
      rw [gAbs_ev, absI_eq]
  · have r1 := fmod_rg (a := cc + 7919 * k) (b := 2147483629) (by omega)
    generalize hx : (cc + 7919 * (k : Int)).fmod 2147483629 = x at *
    have m0 : gMulA (I 7919) (I k) = .ok (.nw (I (7919 * k))) := gMul_lt 13 10 (by omega) (by omega) (by omega) (by omega) (by omega)
    have m1 : gMulA (I x) (I x) = .ok (.nw (I (x * x))) := gMul_lt 31 31 (by omega) (by omega) (by omega) (by omega) (by omega)
    have m2 : gMulA (I 16807) (I x) = .ok (.nw (I (16807 * x))) := gMul_lt 15 31 (by omega) (by omega) (by omega) (by omega) (by omega)
    have r2 := fmod_rg (a := x * x + 16807 * x + k) (b := 2147483629) (by omega)
    generalize hy : (x * x + 16807 * x + (k : Int)).fmod 2147483629 = y at *
    have m3 : gMulA (I y) (I y) = .ok (.nw (I (y * y))) := gMul_lt 31 31 (by omega) (by omega) (by omega) (by omega) (by omega)
    refine ⟨(y * y).fmod 2147483587, (fmod_rg (by omega)).1, ?_⟩
    show runF 4 B__law_mixed _ = _
    unfold B__law_mixed
    refine run_ret (seq_go (r' := [.vl false (I cc), .vl false (I k), .un, .un]) (if_f ?_ rfl) (seq_go (r' := [.vl false (I cc), .vl false (I k), VI x, .un]) (set_go (x := .nw (I x)) ?_ rfl (by simp [startE])) (seq_go (r' := [.vl false (I cc), .vl false (I k), VI y, .un]) (set_go (x := .nw (I y)) ?_ rfl (by simp)) (ret_go ?_))))
    · rw [t_eq (a := cc.fmod 2) (b := 0) (e_mod rfl (by decide)) (eC_ev _), decide_eq_false h]
    · rw [← hx]
      refine e_mod (e_add (a := cc) rfl ?_) (by decide)
      rw [op_of (x := .nw (I 7919)) (y := .nw (I k)) rfl rfl]; exact m0
    · rw [← hy]
      refine e_mod (e_add (e_add (a := x * x) ?_ (b := 16807 * x) ?_) rfl) (by decide)
      · rw [op_of (x := .nw (I x)) (y := .nw (I x)) rfl rfl]; exact m1
      · rw [op_of (x := .nw (I 16807)) (y := .nw (I x)) rfl rfl]; exact m2
    · refine e_mod ?_ (by decide)
      rw [op_of (x := .nw (I y)) (y := .nw (I y)) rfl rfl]; exact m3
theorem e_t3 {f g h : FE} {r : Env} {a b c : Int} (h1 : f r = .ok (.nw (I a))) (h2 : g r = .ok (.nw (I b))) (h3 : h r = .ok (.nw (I c))) : eTup (aCons f (aCons g (aCons h aNil))) r = .ok (.nw (.fz (t3 (a, b, c)))) := by
  simp only [eTup, aCons_ev, h1, h2, h3, res_ok, aNil_ev]; rfl
theorem t_andT {ft gt : Env → Res Bool} {r : Env} {a b : Bool} (h : ft r = .ok a) (h2 : a = true → gt r = .ok b) : tAndD ft gt r = .ok (a && b) := by
  rw [tAnd_ev, h, res_ok]; cases a <;> simp [h2]
theorem t_orT {ft gt : Env → Res Bool} {r : Env} {a b : Bool} (h : ft r = .ok a) (h2 : a = false → gt r = .ok b) : tOrD ft gt r = .ok (a || b) := by
  rw [tOr_ev, h, res_ok]; cases a <;> simp [h2]
theorem e_neg {f : FE} {r : Env} {a : Int} (h : f r = .ok (.nw (I a))) : eUn gNeg f r = .ok (.nw (I (-a))) := by rw [eUn_ev, h]; rfl
theorem e_modV {f g : FE} {r : Env} {a b : Int} (h : f r = .ok (.nw (I a))) (h2 : g r = .ok (.nw (I b))) (hb : b ≠ 0) : eOp gMod f g r = .ok (.nw (I (a.fmod b))) := by
  rw [op_of h h2]; exact gMod_ev hb
theorem e_mul {f g : FE} {r : Env} {a b : Int} (m n : Nat) (h : f r = .ok (.nw (I a))) (h2 : g r = .ok (.nw (I b))) (ha : a.natAbs < 2 ^ m) (hb : b.natAbs < 2 ^ n) (h0 : 0 < m := by omega) (h1 : 0 < n := by omega) (h3 : m + n ≤ 1000000 := by omega) : eOp gMulA f g r = .ok (.nw (I (a * b))) := by
  rw [op_of h h2]; exact gMul_lt m n ha hb h0 h1 (Nat.le_trans h3 (by omega))
def okCh (h l : T3) : Prop := 0 ≤ h.1 ∧ h.1 ≤ 3 ∧ 0 ≤ h.2.1 ∧ h.2.1 ≤ 3 ∧ 0 ≤ h.2.2 ∧ h.2.2 ≤ 9 ∧ -3 ≤ l.1 ∧ l.1 ≤ 3 ∧ -3 ≤ l.2.1 ∧ l.2.1 ≤ 3 ∧ -9 ≤ l.2.2 ∧ l.2.2 ≤ 9 ∧ ¬(l.1 = 0 ∧ l.2.1 < 0) ∧ ¬(h.1 - l.1 = 0 ∧ h.2.1 - l.2.1 < 0)
theorem forms_ok {a b m : Int} (hm : 1 ≤ m ∧ m ≤ 3) : ∃ h l : T3, M__law_forms [I a, I b, I m] = .ok (.fz (ptD (.ch h l))) ∧ okCh h l := by
  have r0 := fmod_rg (a := a) (b := m + 1) (by omega)
  have r1 := fmod_rg (a := a.fdiv 4) (b := m + 1) (by omega)
  have r2 := fmod_rg (a := a.fdiv 16) (b := 10) (by omega)
  generalize h0e : a.fmod (m + 1) = h0 at *
  generalize h1e : (a.fdiv 4).fmod (m + 1) = h1 at *
  generalize h2e : (a.fdiv 16).fmod 10 = h2 at *
  let A : S := .vl false (I a)
  let B : S := .vl false (I b)
  let C : S := .vl false (I m)
  let Hs : S := .vl true (.fz (t3 (h0, h1, h2)))
  have hi0 : ∀ (x : S), eIx (eVar 3) (eC (.int 0)) [A, B, C, Hs, x] = .ok (.nw (I h0)) := fun x => ix_t 0 rfl rfl
  have hi1 : ∀ (x : S), eIx (eVar 3) (eC (.int 1)) [A, B, C, Hs, x] = .ok (.nw (I h1)) := fun x => ix_t 1 rfl rfl
  have hi2 : ∀ (x : S), eIx (eVar 3) (eC (.int 2)) [A, B, C, Hs, x] = .ok (.nw (I h2)) := fun x => ix_t 2 rfl rfl
  have s1 : sSet 3 false (eTup (aCons (eOp gMod (eVar 0) (eOp gAddA (eVar 2) (eC (.int 1)))) (aCons (eOp gMod (eOp gDiv (eVar 0) (eC (.int 4))) (eOp gAddA (eVar 2) (eC (.int 1)))) (aCons (eOp gMod (eOp gDiv (eVar 0) (eC (.int 16))) (eC (.int 10))) aNil)))) [A, B, C, .un, .un] = .nx [A, B, C, Hs, .un] := by
    refine set_go (x := .nw (.fz (t3 (h0, h1, h2)))) (e_t3 ?_ ?_ ?_) rfl (by simp)
    · rw [← h0e]; exact e_modV (b := m + 1) rfl (e_add rfl (eC_ev _)) (by omega)
    · rw [← h1e]; exact e_modV (b := m + 1) (e_div rfl (by omega) (by omega)) (e_add rfl (eC_ev _)) (by omega)
    · rw [← h2e]; exact e_mod (e_div rfl (by omega) (by omega)) (by omega)
  have s2 : ∃ l : T3, sIf (tOf (eOp gEq (eOp gMod (eOp gDiv (eVar 0) (eC (.int 160))) (eC (.int 2))) (eC (.int 0)))) (sSet 4 false (eTup (aCons (eOp gMod (eVar 1) (eOp gAddA (eIx (eVar 3) (eC (.int 0))) (eC (.int 1)))) (aCons (eOp gSub (eOp gMod (eOp gDiv (eVar 1) (eC (.int 4))) (eC (.int 3))) (eC (.int 1))) (aCons (eOp gMod (eOp gDiv (eVar 1) (eC (.int 12))) (eOp gAddA (eIx (eVar 3) (eC (.int 2))) (eC (.int 1)))) aNil))))) (sSet 4 false (eTup (aCons (eOp gSub (eOp gMod (eVar 1) (eOp gAddA (eOp gMulA (eC (.int 2)) (eVar 2)) (eC (.int 1)))) (eVar 2)) (aCons (eOp gSub (eOp gMod (eOp gDiv (eVar 1) (eC (.int 7))) (eOp gAddA (eOp gMulA (eC (.int 2)) (eVar 2)) (eC (.int 1)))) (eVar 2)) (aCons (eOp gSub (eOp gMod (eOp gDiv (eVar 1) (eC (.int 49))) (eC (.int 19))) (eC (.int 9))) aNil))))) [A, B, C, Hs, .un] = .nx [A, B, C, Hs, .vl true (.fz (t3 l))] ∧ -3 ≤ l.1 ∧ l.1 ≤ 3 ∧ -3 ≤ l.2.1 ∧ l.2.1 ≤ 3 ∧ -9 ≤ l.2.2 ∧ l.2.2 ≤ 9 := by
    have tt : tOf (eOp gEq (eOp gMod (eOp gDiv (eVar 0) (eC (.int 160))) (eC (.int 2))) (eC (.int 0))) [A, B, C, Hs, .un] = .ok (decide ((a.fdiv 160).fmod 2 = 0)) := t_eq (e_mod (e_div rfl (by omega) (by omega)) (by omega)) (eC_ev _)
    by_cases hc : (a.fdiv 160).fmod 2 = 0
    · rw [decide_eq_true hc] at tt
      have q0 := fmod_rg (a := b) (b := h0 + 1) (by omega)
      have q1 := fmod_rg (a := b.fdiv 4) (b := 3) (by omega)
      have q2 := fmod_rg (a := b.fdiv 12) (b := h2 + 1) (by omega)
      refine ⟨(b.fmod (h0 + 1), (b.fdiv 4).fmod 3 - 1, (b.fdiv 12).fmod (h2 + 1)), if_t tt (set_go (x := .nw (.fz (t3 _))) (e_t3 ?_ ?_ ?_) rfl (by simp)), ?_⟩
      · exact e_modV (b := h0 + 1) rfl (e_add (hi0 _) (eC_ev _)) (by omega)
      · exact e_sub (e_mod (e_div rfl (by omega) (by omega)) (by omega)) (eC_ev _)
      · exact e_modV (b := h2 + 1) (e_div rfl (by omega) (by omega)) (e_add (hi2 _) (eC_ev _)) (by omega)
      · dsimp only; omega
    · rw [decide_eq_false hc] at tt
      have q0 := fmod_rg (a := b) (b := 2 * m + 1) (by omega)
      have q1 := fmod_rg (a := b.fdiv 7) (b := 2 * m + 1) (by omega)
      have q2 := fmod_rg (a := b.fdiv 49) (b := 19) (by omega)
      have em : ∀ x, eOp gAddA (eOp gMulA (eC (.int 2)) (eVar 2)) (eC (.int 1)) [A, B, C, Hs, x] = .ok (.nw (I (2 * m + 1))) := fun x => e_add (e_mul (b := m) 2 2 (eC_ev _) rfl (by decide) (by omega)) (eC_ev _)
      refine ⟨(b.fmod (2 * m + 1) - m, (b.fdiv 7).fmod (2 * m + 1) - m, (b.fdiv 49).fmod 19 - 9), if_f tt (set_go (x := .nw (.fz (t3 _))) (e_t3 ?_ ?_ ?_) rfl (by simp)), ?_⟩
      · exact e_sub (e_modV rfl (em _) (by omega)) rfl
      · exact e_sub (e_modV (e_div rfl (by omega) (by omega)) (em _) (by omega)) rfl
      · exact e_sub (e_mod (e_div rfl (by omega) (by omega)) (by omega)) (eC_ev _)
      · dsimp only; omega
  obtain ⟨⟨l0, l1, l2⟩, s2, hl⟩ := s2
  dsimp only at hl
  have li0 : ∀ (l : T3), eIx (eVar 4) (eC (.int 0)) [A, B, C, Hs, .vl true (.fz (t3 l))] = .ok (.nw (I l.1)) := fun l => ix_t 0 rfl rfl
  have li1 : ∀ (l : T3), eIx (eVar 4) (eC (.int 1)) [A, B, C, Hs, .vl true (.fz (t3 l))] = .ok (.nw (I l.2.1)) := fun l => ix_t 1 rfl rfl
  have li2 : ∀ (l : T3), eIx (eVar 4) (eC (.int 2)) [A, B, C, Hs, .vl true (.fz (t3 l))] = .ok (.nw (I l.2.2)) := fun l => ix_t 2 rfl rfl
  have s3 : ∃ l : T3, sIf (tAndD (tOf (eOp gEq (eIx (eVar 4) (eC (.int 0))) (eC (.int 0)))) (tOf (eOp gLt (eIx (eVar 4) (eC (.int 1))) (eC (.int 0))))) (sSet 4 false (eTup (aCons (eC (.int 0)) (aCons (eUn gNeg (eIx (eVar 4) (eC (.int 1)))) (aCons (eIx (eVar 4) (eC (.int 2))) aNil))))) sNil [A, B, C, Hs, .vl true (.fz (t3 (l0, l1, l2)))] = .nx [A, B, C, Hs, .vl true (.fz (t3 l))] ∧ -3 ≤ l.1 ∧ l.1 ≤ 3 ∧ -3 ≤ l.2.1 ∧ l.2.1 ≤ 3 ∧ -9 ≤ l.2.2 ∧ l.2.2 ≤ 9 ∧ ¬(l.1 = 0 ∧ l.2.1 < 0) := by
    have tt := t_andT (t_eq (li0 (l0, l1, l2)) (eC_ev (.int 0))) (fun _ => t_lt (li1 (l0, l1, l2)) (eC_ev (.int 0)))
    by_cases hc : l0 = 0 ∧ l1 < 0
    · refine ⟨(0, -l1, l2), if_t (by rw [tt, decide_eq_true hc.1, decide_eq_true hc.2]; rfl) (set_go (x := .nw (.fz (t3 (0, -l1, l2)))) (e_t3 (eC_ev _) (e_neg (li1 (l0, l1, l2))) (li2 (l0, l1, l2))) rfl (by simp)), ?_⟩
      dsimp only; omega
    · refine ⟨(l0, l1, l2), if_f (by rw [tt]; congr 1; simp only [Bool.and_eq_false_iff, decide_eq_false_iff_not]; omega) rfl, ?_⟩
      dsimp only; omega
  obtain ⟨⟨k0, k1, k2⟩, s3, hk⟩ := s3
  dsimp only at hk
  have s4 : ∃ l : T3, sIf (tAndD (tOf (eOp gEq (eIx (eVar 4) (eC (.int 0))) (eIx (eVar 3) (eC (.int 0))))) (tOf (eOp gGt (eIx (eVar 4) (eC (.int 1))) (eIx (eVar 3) (eC (.int 1)))))) (sSet 4 false (eTup (aCons (eIx (eVar 4) (eC (.int 0))) (aCons (eIx (eVar 3) (eC (.int 1))) (aCons (eIx (eVar 4) (eC (.int 2))) aNil))))) sNil [A, B, C, Hs, .vl true (.fz (t3 (k0, k1, k2)))] = .nx [A, B, C, Hs, .vl true (.fz (t3 l))] ∧ okCh (h0, h1, h2) l := by
    have tt := t_andT (t_eq (li0 (k0, k1, k2)) (hi0 _)) (fun _ => t_gt (li1 (k0, k1, k2)) (hi1 _))
    by_cases hc : k0 = h0 ∧ h1 < k1
    · refine ⟨(k0, h1, k2), if_t (by rw [tt, decide_eq_true hc.1, decide_eq_true hc.2]; rfl) (set_go (x := .nw (.fz (t3 (k0, h1, k2)))) (e_t3 (li0 (k0, k1, k2)) (hi1 _) (li2 (k0, k1, k2))) rfl (by simp)), ?_⟩
      unfold okCh; dsimp only; omega
    · refine ⟨(k0, k1, k2), if_f (by rw [tt]; congr 1; simp only [Bool.and_eq_false_iff, decide_eq_false_iff_not]; omega) rfl, ?_⟩
      unfold okCh; dsimp only; omega
  obtain ⟨l, s4, hok⟩ := s4
  refine ⟨(h0, h1, h2), l, ?_, hok⟩
  show runF 5 B__law_forms _ = _
  unfold B__law_forms
  exact run_ret (seq_go s1 (seq_go s2 (seq_go s3 (seq_go s4 (ret_go rfl)))))
theorem lcL_mapB {β : Type} {fg : FG} {f : FE} {r : Env} {g : β → R} {v : β → O} : ∀ (xs : List β) (acc : List O), (∀ x ∈ xs, ∃ r1, fg (g x) r = some r1 ∧ f r1 = .ok (.nw (v x))) → acc.length + xs.length ≤ 100000 → lcL fg tYesD f r (xs.map g) acc = .ok (.nw (.ls (acc ++ xs.map v)))
  | [], acc, _, _ => by simp [lcL]
  | x :: xs, acc, h, hl => by
    obtain ⟨r1, e1, e2⟩ := h x List.mem_cons_self
    simp only [List.length_cons] at hl
    have ih := lcL_mapB (fg := fg) (f := f) (r := r) (g := g) (v := v) xs (acc ++ [v x]) (fun y hy => h y (List.mem_cons_of_mem _ hy)) (by simp; omega)
    simp only [List.map_cons]
    unfold lcL
    simp only [e1, e2, tYes_ev, newO]
    rw [if_pos (by omega), ih]
    simp
theorem lcD_map {β : Type} {fi : Env → Res (List R)} {fg : FG} {vs : List Nat} {f : FE} {r : Env} {g : β → R} {v : β → O} {xs : List β} (hi : fi r = .ok (xs.map g)) (hv : vs.all (· < r.length) = true) (h : ∀ x ∈ xs, ∃ r1, fg (g x) (wipeE r vs) = some r1 ∧ f r1 = .ok (.nw (v x))) (hn : xs.length ≤ 100000) :
    eLcD fi fg vs tYesD f r = .ok (.nw (.ls (xs.map v))) := by
  simp only [eLcD, hi, res_ok, hv, if_true]
  rw [lcL_mapB (v := v) xs [] h (by simpa using hn)]
  simp
theorem forL_list {β : Type} {fg : FG} {F : FS} {g : β → R} {P : List β → Env → Prop} : ∀ (xs done : List β) (r : Env), P done r → (∀ (d : List β) (x : β) (r : Env), x ∈ xs → P d r → ∃ r1 r', fg (g x) r = some r1 ∧ F r1 = .nx r' ∧ P (d ++ [x]) r') → ∃ r', forL fg F (xs.map g) r = .nx r' ∧ P (done ++ xs) r'
  | [], done, r, h, _ => ⟨r, rfl, by simpa using h⟩
  | x :: xs, done, r, h, hs => by
    obtain ⟨r1, r2, e1, e2, p2⟩ := hs done x r List.mem_cons_self h
    obtain ⟨r3, e3, p3⟩ := forL_list xs (done ++ [x]) r2 p2 fun d y r hy => hs d y r (List.mem_cons_of_mem _ hy)
    exact ⟨r3, by rw [List.map_cons, forL_cons e1 e2]; exact e3, by simpa using p3⟩
theorem iLst_ds {f : FE} {r : Env} {ds : List D} (h : f r = .ok (.nw (.fz (.lst ds)))) : iLst f r = .ok (ds.map fun d => .nw (.fz d)) := by
  simp [iLst, h, itsL]
def okFr (f : Int × Int) : Prop := f.1 ≠ 0 ∧ f.1.natAbs < 2 ^ 70 ∧ 1 ≤ f.2 ∧ f.2 ≤ 10 ^ 6 ∧ gcdI f.1 f.2 = 1
theorem lratio_ok (a b : Int) : ∃ p : Int × Int, M__law_ratio [I a, I b] = .ok (.fz (fD p)) ∧ okFr p := by
  have n20 : (lawNumM a (10 ^ 20)).natAbs < 2 ^ 70 := Nat.lt_trans (lawNumM_lt _ (by decide)) (by decide)
  generalize hn : lawNumM a (10 ^ 20) = n at *
  obtain ⟨t, ht0, ht, hs⟩ : ∃ t : Int, t ≠ 0 ∧ t.natAbs < 2 ^ 70 ∧ sIf (tOf (eOp gEq (eVar 2) (eC (.int 0)))) (sSet 2 false (eC (.int 1))) sNil [.vl false (I a), .vl false (I b), VI n, .un, .un, .un] = .nx [.vl false (I a), .vl false (I b), VI t, .un, .un, .un] := by
    have tt : tOf (eOp gEq (eVar 2) (eC (.int 0))) [.vl false (I a), .vl false (I b), VI n, .un, .un, .un] = .ok (decide (n = 0)) := t_eq rfl (eC_ev _)
    by_cases h : n = 0
    · rw [decide_eq_true h] at tt
      exact ⟨1, by decide, by decide, if_t tt (set_go (eC_ev _) rfl (by simp))⟩
    · rw [decide_eq_false h] at tt
      exact ⟨n, h, n20, if_f tt rfl⟩
  obtain ⟨m, hm, em⟩ := mixed_ok b 3 (by omega)
  have r5 := fmod_rg (a := m) (b := 3) (by omega)
  have r3 := fmod_rg (a := m.fdiv 3) (b := 9) (by omega)
  have r4 := fmod_rg (a := m.fdiv 3) (b := 10 ^ 6) (by omega)
  obtain ⟨j, hj⟩ : ∃ j : Nat, m.fmod 3 = j := ⟨(m.fmod 3).toNat, by omega⟩
  have hjl : j < [1, 1 + (m.fdiv 3).fmod 9, 1 + (m.fdiv 3).fmod (10 ^ 6)].length := by simp; omega
  have hb : 1 ≤ [1, 1 + (m.fdiv 3).fmod 9, 1 + (m.fdiv 3).fmod (10 ^ 6)][j] ∧ [1, 1 + (m.fdiv 3).fmod 9, 1 + (m.fdiv 3).fmod (10 ^ 6)][j] ≤ 10 ^ 6 := by
    have hm : ∀ z ∈ [1, 1 + (m.fdiv 3).fmod 9, 1 + (m.fdiv 3).fmod (10 ^ 6)], 1 ≤ z ∧ z ≤ 10 ^ 6 := fun z hz => by
      simp only [List.mem_cons, List.not_mem_nil, or_false] at hz
      rcases hz with h | h | h <;> omega
    exact hm _ (List.getElem_mem hjl)
  have ei : eIx (eLst (aCons (eC (.int 1)) (aCons (eOp gAddA (eC (.int 1)) (eOp gMod (eOp gDiv (eVar 3) (eC (.int 3))) (eC (.int 9)))) (aCons (eOp gAddA (eC (.int 1)) (eOp gMod (eOp gDiv (eVar 3) (eC (.int 3))) (eOp gPow (eC (.int 10)) (eC (.int 6))))) aNil)))) (eOp gMod (eVar 3) (eC (.int 3))) [.vl false (I a), .vl false (I b), VI t, VI m, .un, .un] = .ok (.nw (I [1, 1 + (m.fdiv 3).fmod 9, 1 + (m.fdiv 3).fmod (10 ^ 6)][j])) := by
    have a1 : eOp gAddA (eC (.int 1)) (eOp gMod (eOp gDiv (eVar 3) (eC (.int 3))) (eC (.int 9))) [.vl false (I a), .vl false (I b), VI t, VI m, .un, .un] = .ok (.nw (I (1 + (m.fdiv 3).fmod 9))) := e_add (eC_ev _) (e_mod (e_div rfl (by omega) (by omega)) (by omega))
    have a2 : eOp gAddA (eC (.int 1)) (eOp gMod (eOp gDiv (eVar 3) (eC (.int 3))) (eOp gPow (eC (.int 10)) (eC (.int 6)))) [.vl false (I a), .vl false (I b), VI t, VI m, .un, .un] = .ok (.nw (I (1 + (m.fdiv 3).fmod (10 ^ 6)))) := e_add (eC_ev _) (e_modV (e_div rfl (by omega) (by omega)) rfl (by omega))
    refine ix_IL (x := .nw (nO [1, 1 + (m.fdiv 3).fmod 9, 1 + (m.fdiv 3).fmod (10 ^ 6)])) (k := m.fmod 3) (i := j) ?_ (by rw [ra_nO]; exact asIL_lst _) (e_mod rfl (by omega)) hj hjl
    simp only [eLst, aCons_ev, eC_ev, a1, a2, res_ok, aNil_ev, ra_nw, er_fz]; rfl
  generalize hbb : [1, 1 + (m.fdiv 3).fmod 9, 1 + (m.fdiv 3).fmod (10 ^ 6)][j] = d at *
  have d0 : d ≠ 0 := by omega
  have sg : sgcd t d = gcdI t d := if_neg (by omega)
  have g0 : gcdI t d ≠ 0 := by have := gcdI_pos (a := t) d0; omega
  have g9 : small9 (gcdI t d) = true := by
    rw [← sg]
    exact small9_lt 21 (by omega) (by omega) (Nat.lt_of_le_of_lt (sgcd_le d0) (by omega))
  refine ⟨(rtop t d, rbot t d), ?_, ?_, Nat.lt_of_le_of_lt (rtop_le d0) ht, rbot_pos d0, ?_, r_gcd d0⟩
  · show runF 6 B__law_ratio _ = _
    unfold B__law_ratio
    refine run_ret (seq_go (r' := [.vl false (I a), .vl false (I b), VI n, .un, .un, .un]) (set_go (x := .nw (I n)) ?_ rfl (by simp [startE])) (seq_go hs (seq_go (r' := [.vl false (I a), .vl false (I b), VI t, VI m, .un, .un]) (set_go (x := .nw (I m)) (call2 (x := .nw (I b)) (y := .nw (I 3)) rfl rfl em) rfl (by simp)) (seq_go (r' := [.vl false (I a), .vl false (I b), VI t, VI m, VI d, .un]) (set_go (x := .nw (I d)) ei rfl (by simp))
      (seq_go (r' := [.vl false (I a), .vl false (I b), VI t, VI m, VI d, VI (gcdI t d)]) (set_go (x := .nw (I (gcdI t d))) (call2 (x := .nw (I t)) (y := .nw (I d)) rfl rfl rfl) rfl (by simp)) (ret_go ?_))))))
    · rw [← hn]
      exact call2 (x := .nw (I a)) (y := .nw (I (10 ^ 20))) rfl rfl (num_ok (by decide) (by decide))
    · have e1 : eOp gDiv (eVar 2) (eVar 5) [.vl false (I a), .vl false (I b), VI t, VI m, VI d, VI (gcdI t d)] = .ok (.nw (I (rtop t d))) := by
        rw [op_of (x := .nw (I t)) (y := .nw (I (gcdI t d))) rfl rfl]
        show gDiv (I t) (I (gcdI t d)) = _
        rw [gDiv_s9 g0 g9, rtop, sg]
      have e2 : eOp gDiv (eVar 4) (eVar 5) [.vl false (I a), .vl false (I b), VI t, VI m, VI d, VI (gcdI t d)] = .ok (.nw (I (rbot t d))) := by
        rw [op_of (x := .nw (I d)) (y := .nw (I (gcdI t d))) rfl rfl]
        show gDiv (I d) (I (gcdI t d)) = _
        rw [gDiv_s9 g0 g9, rbot, sg]
      simp only [eTup, aCons_ev, e1, e2, res_ok, aNil_ev]; rfl
  · intro z
    have := rtop_mul t d
    dsimp only at z
    rw [z] at this
    omega
  · have := rbot_le (a := t) d0
    have := rbot_pos (a := t) d0
    show rbot t d ≤ 10 ^ 6
    omega
theorem gEq_str {x y : PySem.Str} (hx : plainD 0 (.str x) = true) (hy : plainD 0 (.str y) = true) : gEq (.fz (.str x)) (.fz (.str y)) = .ok (.nw (.fz (.bl (decide (x = y))))) := by
  have hs : ∀ {x : PySem.Str}, plainD 0 (.str x) = true → PySem.SeqAt.shaped (.str x) = true := fun {x} h => by
    obtain ⟨p, e1, e2, e3⟩ := plain_py 0 (.str x) h
    cases e1
    unfold PySem.SeqAt.shaped
    rw [e2, decide_eq_true (by omega)]; rfl
  show gEqD _ _ = _
  simp only [gEqD, er_fz, eqD, py, hs hx, hs hy, Bool.and_self, if_true]
  rw [show (PySem.PyData.str x).eqv (PySem.PyData.str y) = decide (x = y) from by rw [PySem.PyData.eqv]; by_cases h : x = y <;> simp [h]]
  rfl
def isCh : Pt → Bool
  | .ch _ _ => true
  | _ => false
def okPt : Pt → Prop
  | .ch h l => okCh h l
  | .wt f => f.1.natAbs < 2 ^ 200 ∧ f.2.1.natAbs < 2 ^ 200 ∧ f.2.2.natAbs < 2 ^ 200
  | .pw f => okFr f
  | .gr f => okFr f
theorem part_ok (c0 c1 c2 m : Int) (hm : 0 ≤ m ∧ m ≤ 3) : ∃ p : Pt, M__law_part [lO [c0, c1, c2], I m] = .ok (.fz (ptD p)) ∧ okPt p ∧ (isCh p = true → 0 < m) := by
  obtain ⟨w0, hw0, e0⟩ := mixed_ok c0 0 (by omega)
  have rw0 := fmod_rg (a := w0) (b := 8) (by omega)
  generalize hw : w0.fmod 8 = w at *
  have ix : ∀ (x y : S) (k : Nat) (hk : k < [c0, c1, c2].length) (kk : Int), kk = (k : Int) → eIx (eVar 0) (eC (.int kk)) [.vl false (lO [c0, c1, c2]), .vl false (I m), x, y] = .ok (.nw (I [c0, c1, c2][k])) := fun x y k hk kk hkk => ix_IL (x := .nw (lO [c0, c1, c2])) rfl (asIL_lst _) (eC_ev _) hkk hk
  have s1 : sSet 2 false (eOp gMod (eCall M__law_mixed (aCons (eIx (eVar 0) (eC (.int 0))) (aCons (eC (.int 0)) aNil))) (eC (.int 8))) [.vl false (lO [c0, c1, c2]), .vl false (I m), .un, .un] = .nx [.vl false (lO [c0, c1, c2]), .vl false (I m), VI w, .un] := by
    refine set_go (x := .nw (I w)) ?_ rfl (by simp)
    rw [← hw]
    exact e_mod (call2 (x := .nw (I c0)) (y := .nw (I 0)) (ix _ _ 0 (by simp) 0 rfl) (eC_ev _) e0) (by omega)
  have tc : tAndD (tOf (eOp gLt (eVar 2) (eC (.int 4)))) (tOf (eOp gGt (eVar 1) (eC (.int 0)))) [.vl false (lO [c0, c1, c2]), .vl false (I m), VI w, .un] = .ok (decide (w < 4) && decide (0 < m)) := t_andT (t_lt rfl (eC_ev _)) (fun _ => t_gt rfl (eC_ev _))
  have t6 : tOf (eOp gEq (eVar 2) (eC (.int 6))) [.vl false (lO [c0, c1, c2]), .vl false (I m), VI w, .un] = .ok (decide (w = 6)) := t_eq rfl (eC_ev _)
  have t7 : tOf (eOp gEq (eVar 2) (eC (.int 7))) [.vl false (lO [c0, c1, c2]), .vl false (I m), VI w, .un] = .ok (decide (w = 7)) := t_eq rfl (eC_ev _)
  by_cases h4 : w < 4 ∧ 0 < m
  · obtain ⟨m1, hm1, e1⟩ := mixed_ok c1 1 (by omega)
    obtain ⟨m2, hm2, e2⟩ := mixed_ok c2 2 (by omega)
    obtain ⟨h, l, eF, hok⟩ := forms_ok (a := m1) (b := m2) (m := m) (by omega)
    refine ⟨.ch h l, ?_, hok, fun _ => h4.2⟩
    show runF 4 B__law_part _ = _
    unfold B__law_part
    refine run_ret (seq_go s1 (seq_ret (if_t (by rw [tc, decide_eq_true h4.1, decide_eq_true h4.2]; rfl) (ret_go ?_))))
    exact call3 (x := .nw (I m1)) (y := .nw (I m2)) (z := .nw (I m)) (call2 (x := .nw (I c1)) (y := .nw (I 1)) (ix _ _ 1 (by simp) 1 rfl) (eC_ev _) e1) (call2 (x := .nw (I c2)) (y := .nw (I 2)) (ix _ _ 2 (by simp) 2 rfl) (eC_ev _) e2) rfl eF
  · have f4 : tAndD (tOf (eOp gLt (eVar 2) (eC (.int 4)))) (tOf (eOp gGt (eVar 1) (eC (.int 0)))) [.vl false (lO [c0, c1, c2]), .vl false (I m), VI w, .un] = .ok false := by
      rw [tc]
      congr 1
      by_cases q : w < 4
      · rw [decide_eq_false (show ¬ 0 < m from fun z => h4 ⟨q, z⟩), Bool.and_false]
      · rw [decide_eq_false q]; rfl
    obtain ⟨p, eR, hR⟩ := lratio_ok c1 c2
    have eRat : eCall M__law_ratio (aCons (eIx (eVar 0) (eC (.int 1))) (aCons (eIx (eVar 0) (eC (.int 2))) aNil)) [.vl false (lO [c0, c1, c2]), .vl false (I m), VI w, .un] = .ok (.nw (.fz (fD p))) := call2 (x := .nw (I c1)) (y := .nw (I c2)) (ix _ _ 1 (by simp) 1 rfl) (ix _ _ 2 (by simp) 2 rfl) eR
    by_cases h6 : w = 6
    · refine ⟨.pw p, ?_, hR, fun z => by cases z⟩
      show runF 4 B__law_part _ = _
      unfold B__law_part
      refine run_ret (seq_go s1 (seq_go (if_f f4 rfl) (seq_ret (if_t (by rw [t6, decide_eq_true h6]) (ret_go ?_)))))
      simp only [eTup, aCons_ev, eC_ev, eRat, res_ok, aNil_ev]; rfl
    · by_cases h7 : w = 7
      · refine ⟨.gr p, ?_, hR, fun z => by cases z⟩
        show runF 4 B__law_part _ = _
        unfold B__law_part
        refine run_ret (seq_go s1 (seq_go (if_f f4 rfl) (seq_go (if_f (by rw [t6, decide_eq_false h6]) rfl) (seq_ret (if_t (by rw [t7, decide_eq_true h7]) (ret_go ?_))))))
        simp only [eTup, aCons_ev, eC_ev, eRat, res_ok, aNil_ev]; rfl
      · refine ⟨.wt (lawNumM c0 (10 ^ 60), lawNumM c1 (10 ^ 60), lawNumM c2 (10 ^ 60)), ?_, ⟨num60_lt _, num60_lt _, num60_lt _⟩, fun z => by cases z⟩
        show runF 4 B__law_part _ = _
        unfold B__law_part
        refine run_ret (seq_go s1 (seq_go (if_f f4 rfl) (seq_go (if_f (by rw [t6, decide_eq_false h6]) rfl) (seq_go (if_f (by rw [t7, decide_eq_false h7]) rfl) (ret_go ?_)))))
        have eL : eLcD (iLst (eVar 0)) (gN 3) [3] tYesD (eCall M__law_number (aCons (eVar 3) (aCons (eOp gPow (eC (.int 10)) (eC (.int 60))) aNil))) [.vl false (lO [c0, c1, c2]), .vl false (I m), VI w, .un] = .ok (.nw (.ls ([c0, c1, c2].map fun c => I (lawNumM c (10 ^ 60))))) := by
          refine lcD_map (g := intR) (xs := [c0, c1, c2]) rfl (by simp) (fun x _ => ⟨[.vl false (lO [c0, c1, c2]), .vl false (I m), VI w, VI x], by simp [wipeE, intR], ?_⟩) (by simp)
          exact call2 (x := .nw (I x)) (y := .nw (I (10 ^ 60))) rfl rfl (num_ok p60.1 p60.2)
        have eT : eB gTup1 (aCons (eLcD (iLst (eVar 0)) (gN 3) [3] tYesD (eCall M__law_number (aCons (eVar 3) (aCons (eOp gPow (eC (.int 10)) (eC (.int 60))) aNil)))) aNil) [.vl false (lO [c0, c1, c2]), .vl false (I m), VI w, .un] = .ok (.nw (.fz (t3 (lawNumM c0 (10 ^ 60), lawNumM c1 (10 ^ 60), lawNumM c2 (10 ^ 60))))) := by
          rw [b1 eL]; rfl
        simp only [eTup, aCons_ev, eC_ev, eT, res_ok, aNil_ev]; rfl
abbrev oPt (ps : List Pt) : List O := ps.map fun p => .fz (ptD p)
abbrev LPt (ps : List Pt) : D := .lst (ps.map ptD)
theorem allFz_oPt (ps : List Pt) : allFz (oPt ps) = true := by induction ps with
  | nil => rfl
  | cons x xs ih => exact ih
theorem er_oPt (ps : List Pt) : er (.ls (oPt ps)) = LPt ps := by
  rw [er_ls, ers_eq, List.map_map]; rfl
theorem ptD_0 (p : Pt) : ∃ (x : PySem.Str) (ds : List D), ptD p = .tup (.str x :: ds) ∧ gEq (.fz (.str x)) (.fz (.str "choose")) = .ok (.nw (.fz (.bl (isCh p)))) := by
  cases p with
  | ch h l => exact ⟨"choose", _, rfl, by rw [gEq_str (by decide +kernel) (by decide +kernel)]; rfl⟩
  | wt f => exact ⟨"weight", _, rfl, by rw [gEq_str (by decide +kernel) (by decide +kernel)]; rfl⟩
  | pw f => exact ⟨"power", _, rfl, by rw [gEq_str (by decide +kernel) (by decide +kernel)]; rfl⟩
  | gr f => exact ⟨"growth", _, rfl, by rw [gEq_str (by decide +kernel) (by decide +kernel)]; rfl⟩
theorem parts_ok (ns : List Int) : ∃ ps : List Pt, M__law_parts [.fz (.scr ns), lO [3, 1]] = .ok (.ls (oPt ps)) ∧ (∀ p ∈ ps, okPt p) ∧ 1 ≤ ps.length ∧ ps.length ≤ 6 ∧ (ps.filter isCh).length ≤ 2 := by
  have rg := fmod_rg (a := cellAt ns 0) (b := 6) (by omega)
  obtain ⟨n, hn⟩ : ∃ n : Nat, 1 + (cellAt ns 0).fmod 6 = n := ⟨(1 + (cellAt ns 0).fmod 6).toNat, by omega⟩
  have hn6 : n ≤ 6 := by omega
  have erng : iRng rng1 (aCons (eOp gAddA (eC (.int 1)) (eOp gMod (eCall M__law_cell_at (aCons (eVar 0) (aCons (eC (.int 0)) aNil))) (eC (.int 6)))) aNil) [scrS ns, .vl false (lO [3, 1]), .vl true (.ls []), .un, .un, .un] = .ok ((List.range n).map fun (k : Nat) => intR (k : Int)) := by
    refine rng_ok ?_ (by omega)
    rw [aCons_ev, e_add (eC_ev _) (e_mod (cell_c (by omega)) (by omega)), ← hn]; rfl
  have start : ∃ r0, forL (gN 3) (sSeq (sSet 4 false (eCall M__law_part (aCons (eLcD (iRng rng1 (aCons (eC (.int 3)) aNil)) (gN 5) [5] tYesD (eCall M__law_cell_at (aCons (eVar 0) (aCons (eOp gAddA (eOp gAddA (eC (.int 1)) (eOp gMulA (eC (.int 3)) (eVar 3))) (eVar 5)) aNil)))) (aCons (eIx (eVar 1) (eC (.int 0))) aNil)))) (sSeq (sIf (tOf (eOp gEq (eIx (eVar 4) (eC (.int 0))) (eC (.str "choose")))) (sSet 1 false (eOp gAddA (eSl (eVar 1) (pSome (eC (.int 1))) pNone) (eLst (aCons (eC (.int 0)) aNil)))) sNil) (sApp 2 (eVar 4)))) ((List.range n).map fun (k : Nat) => intR (k : Int)) [scrS ns, .vl false (lO [3, 1]), .vl true (.ls []), .un, .un, .un] = .nx r0 ∧ ∃ (ps : List Pt) (x1 x y z : S), r0 = [scrS ns, x1, .vl true (.ls (oPt ps)), x, y, z] ∧ (∀ p ∈ ps, okPt p) ∧ ps.length = n ∧ (ps.filter isCh).length ≤ 2 := by
    obtain ⟨r', e, hr⟩ := forL_inv (fg := gN 3) (its := (List.range n).map fun (k : Nat) => intR (k : Int)) (F := (sSeq (sSet 4 false (eCall M__law_part (aCons (eLcD (iRng rng1 (aCons (eC (.int 3)) aNil)) (gN 5) [5] tYesD (eCall M__law_cell_at (aCons (eVar 0) (aCons (eOp gAddA (eOp gAddA (eC (.int 1)) (eOp gMulA (eC (.int 3)) (eVar 3))) (eVar 5)) aNil)))) (aCons (eIx (eVar 1) (eC (.int 0))) aNil)))) (sSeq (sIf (tOf (eOp gEq (eIx (eVar 4) (eC (.int 0))) (eC (.str "choose")))) (sSet 1 false (eOp gAddA (eSl (eVar 1) (pSome (eC (.int 1))) pNone) (eLst (aCons (eC (.int 0)) aNil)))) sNil) (sApp 2 (eVar 4)))))
      (r := [scrS ns, .vl false (lO [3, 1]), .vl true (.ls []), .un, .un, .un]) (fun i r => ∃ (w : Bool) (ps : List Pt) (ms : List Int) (x y z : S), r = [scrS ns, .vl w (lO ms), .vl true (.ls (oPt ps)), x, y, z] ∧ ps.length = i ∧ (∀ p ∈ ps, okPt p) ∧ ms.length = 2 ∧ (∀ m ∈ ms, 0 ≤ m ∧ m ≤ 3) ∧ (ps.filter isCh).length + (ms.filter fun m => decide (0 < m)).length ≤ 2)
      ⟨false, [], [3, 1], _, _, _, rfl, rfl, (fun _ h => nomatch h), rfl, (by decide), (by decide)⟩ (fun i y0 r hy ⟨w, ps, ms, x, y, z, hr, hl, hp, h6, h3, hcnt⟩ => by
        subst hr
        obtain ⟨hi, rfl⟩ : i < n ∧ y0 = intR (i : Int) := by
          rw [List.getElem?_map] at hy
          cases hj : (List.range n)[i]? with
          | none => rw [hj] at hy; cases hy
          | some j =>
            rw [hj] at hy
            obtain ⟨h1, h2⟩ := List.getElem?_eq_some_iff.mp hj
            simp at h1 h2
            subst h2
            exact ⟨h1, (Option.some.inj hy).symm⟩
        obtain ⟨m0, m1, rfl⟩ : ∃ m0 m1 : Int, ms = [m0, m1] := by
          match ms, h6 with
          | [a, b], _ => exact ⟨a, b, rfl⟩
        have hm0 := h3 m0 (by simp)
        have hm1 := h3 m1 (by simp)
        let R0 : Env := [scrS ns, .vl w (lO [m0, m1]), .vl true (.ls (oPt ps)), VI i, y, z]
        have eC3 : eLcD (iRng rng1 (aCons (eC (.int 3)) aNil)) (gN 5) [5] tYesD (eCall M__law_cell_at (aCons (eVar 0) (aCons (eOp gAddA (eOp gAddA (eC (.int 1)) (eOp gMulA (eC (.int 3)) (eVar 3))) (eVar 5)) aNil))) R0 = .ok (.nw (nO [cellAt ns (1 + 3 * i + 0), cellAt ns (1 + 3 * i + 1), cellAt ns (1 + 3 * i + 2)])) := by
          rw [lcD_gen (v := fun j => I (cellAt ns (1 + 3 * i + j))) (g := fun (k : Nat) => intR (k : Int)) (n := 3) (rng_ok (n := 3) rfl (by omega)) (by simp [R0]) (fun j hj => ⟨[scrS ns, .vl w (lO [m0, m1]), .vl true (.ls (oPt ps)), VI i, y, VI j], by simp [wipeE, R0, intR], ?_⟩) (by omega)]
          · rfl
          · refine cell_e (by omega) (e_add (e_add (eC_ev _) (e_mul 2 30 (eC_ev _) rfl (by decide) (by omega))) rfl)
        obtain ⟨p, eP, hP, hpc⟩ := part_ok (cellAt ns (1 + 3 * i + 0)) (cellAt ns (1 + 3 * i + 1)) (cellAt ns (1 + 3 * i + 2)) m0 hm0
        have eM : eIx (eVar 1) (eC (.int 0)) R0 = .ok (.nw (I m0)) := ix_IL (x := .nw (lO [m0, m1])) (xs := [m0, m1]) (i := 0) (k := 0) (by cases w <;> rfl) (asIL_lst _) (eC_ev _) rfl (by simp)
        obtain ⟨xs, ds, epD, ech⟩ := ptD_0 p
        have sP : sSet 4 false (eCall M__law_part (aCons (eLcD (iRng rng1 (aCons (eC (.int 3)) aNil)) (gN 5) [5] tYesD (eCall M__law_cell_at (aCons (eVar 0) (aCons (eOp gAddA (eOp gAddA (eC (.int 1)) (eOp gMulA (eC (.int 3)) (eVar 3))) (eVar 5)) aNil)))) (aCons (eIx (eVar 1) (eC (.int 0))) aNil))) R0 = .nx [scrS ns, .vl w (lO [m0, m1]), .vl true (.ls (oPt ps)), VI i, .vl true (.fz (ptD p)), z] := set_go (x := .nw (.fz (ptD p))) (call2 eC3 eM (by rw [ra_nO]; exact eP)) rfl (by simp [R0])
        have tC : tOf (eOp gEq (eIx (eVar 4) (eC (.int 0))) (eC (.str "choose"))) [scrS ns, .vl w (lO [m0, m1]), .vl true (.ls (oPt ps)), VI i, .vl true (.fz (ptD p)), z] = .ok (isCh p) := by
          have e4 : eIx (eVar 4) (eC (.int 0)) [scrS ns, .vl w (lO [m0, m1]), .vl true (.ls (oPt ps)), VI i, .vl true (.fz (ptD p)), z] = .ok (.nw (.fz (.str xs))) := ix_t 0 (ds := .str xs :: ds) (by rw [← epD]; rfl) rfl
          rw [tOf_ev, op_of e4 (eC_ev _), ra_nw, er_fz, ra_nw, er_fz, ech]; rfl
        have sI : ∃ (w' : Bool) (ms' : List Int), sIf (tOf (eOp gEq (eIx (eVar 4) (eC (.int 0))) (eC (.str "choose")))) (sSet 1 false (eOp gAddA (eSl (eVar 1) (pSome (eC (.int 1))) pNone) (eLst (aCons (eC (.int 0)) aNil)))) sNil [scrS ns, .vl w (lO [m0, m1]), .vl true (.ls (oPt ps)), VI i, .vl true (.fz (ptD p)), z] = .nx [scrS ns, .vl w' (lO ms'), .vl true (.ls (oPt ps)), VI i, .vl true (.fz (ptD p)), z] ∧ ms'.length = 2 ∧ (∀ m ∈ ms', 0 ≤ m ∧ m ≤ 3) ∧ ((ps ++ [p]).filter isCh).length + (ms'.filter fun m => decide (0 < m)).length ≤ 2 := by
          cases hb : isCh p with
          | false =>
            rw [hb] at tC
            exact ⟨w, [m0, m1], if_f tC rfl, rfl, h3, by rw [List.filter_append]; simpa [hb] using hcnt⟩
          | true =>
            rw [hb] at tC
            have p0 := hpc hb
            refine ⟨true, [m1, 0], if_t tC (set_go (x := .nw (nO [m1, 0])) ?_ (by rw [put_nwF, er_nO]) (by simp)), rfl, ?_, ?_⟩
            · have e1 : eSl (eVar 1) (pSome (eC (.int 1))) pNone [scrS ns, .vl w (lO [m0, m1]), .vl true (.ls (oPt ps)), VI i, .vl true (.fz (ptD p)), z] = .ok (.nw (nO [m1])) := by
                have e0 : eVar 1 [scrS ns, .vl w (lO [m0, m1]), .vl true (.ls (oPt ps)), VI i, .vl true (.fz (ptD p)), z] = .ok (.nw (lO [m0, m1])) := by cases w <;> rfl
                simp only [eSl, e0, res_ok, pSome, eC_ev, pNone_ev, ra_nw, er_fz, items_int]
                show lsR (cutL (iL [m0, m1]) (some 1) none) = _
                rw [cutL_iL]
                have : cutL [m0, m1] (some 1) none = [m1] := rfl
                rw [this, lsR_ev (allFz_iL _) (by simp)]
              rw [op_of e1 (y := .nw (nO [0])) rfl, ra_nO, ra_nO]
              exact cat_IL (asIL_lst _) (asIL_lst _) (by simp)
            · intro m hm
              simp only [List.mem_cons, List.not_mem_nil, or_false] at hm
              rcases hm with rfl | rfl
              · exact hm1
              · omega
            · rw [List.filter_append, List.length_append]
              have q1 : ([p].filter isCh).length = 1 := by simp [hb]
              have q2 : (([m0, m1] : List Int).filter fun m => decide (0 < m)).length = 1 + (([m1] : List Int).filter fun m => decide (0 < m)).length := by
                rw [List.filter_cons_of_pos (by simpa using p0), List.length_cons]; omega
              have q3 : (([m1, 0] : List Int).filter fun m => decide (0 < m)).length = (([m1] : List Int).filter fun m => decide (0 < m)).length := by
                by_cases h : 0 < m1 <;> simp [h]
              rw [q1, q3]
              omega
        obtain ⟨w', ms', sI, h6', h3', hc'⟩ := sI
        refine ⟨R0, [scrS ns, .vl w' (lO ms'), .vl true (.ls (oPt (ps ++ [p]))), VI i, .vl true (.fz (ptD p)), z], by simp [R0, intR], seq_go sP (seq_go sI ?_), w', ps ++ [p], ms', _, _, _, rfl, by simp [hl], fun q hq => ?_, h6', h3', hc'⟩
        · rw [app_ls (d := ptD p) (os := oPt ps) rfl (allFz_oPt ps) rfl rfl (by simp; omega)]
          simp
        · rcases List.mem_append.mp hq with h | h
          · exact hp q h
          · rw [List.mem_singleton.mp h]; exact hP)
    obtain ⟨w, ps, ms, x, y, z, hr, hl, hp, _, _, hc⟩ := hr
    exact ⟨r', e, ps, _, x, y, z, hr, hp, by simpa using hl, by omega⟩
  obtain ⟨r0, e, ps, x1, x, y, z, hr, hp, hl, hc⟩ := start
  refine ⟨ps, ?_, hp, by omega, by omega, hc⟩
  show runF 6 B__law_parts _ = _
  unfold B__law_parts
  refine run_ret (seq_go (r' := [scrS ns, .vl false (lO [3, 1]), .vl true (.ls []), .un, .un, .un]) (set_go (x := .nw (.ls [])) rfl rfl (by simp [startE])) (seq_go (for_go erng e) ?_))
  subst hr
  rfl
def wB (f : T3) (a b c : Int) : Bool := !(decide (minL f.1 [f.2.1] < a) || decide (b < maxL f.1 [f.2.1])) && (decide ((f.2.2.natAbs : Int) ≤ c) && (decide (a < 0) || decide (0 ≤ f.2.2)))
theorem within_ok (f : T3) (a b c : Int) : M_within [.fz (t3 f), I a, I b, I c] = .ok (.fz (.bl (wB f a b c))) := by
  let R : Env := [.vl false (.fz (t3 f)), .vl false (I a), .vl false (I b), .vl false (I c)]
  have e2 : eIx (eVar 0) (eC (.int 2)) R = .ok (.nw (I f.2.2)) := ix_t 2 rfl rfl
  have es : eSlT (eVar 0) pNone (pSome (eC (.int 2))) R = .ok (.nw (.fz (.tup [.int f.1, .int f.2.1]))) := rfl
  have t1 : tOf (eOp gLt (eB gMinT (aCons (eSlT (eVar 0) pNone (pSome (eC (.int 2)))) aNil)) (eVar 1)) R = .ok (decide (minL f.1 [f.2.1] < a)) := t_lt (by rw [b1 es]; rfl) rfl
  have t2 : tOf (eOp gGt (eB gMaxT (aCons (eSlT (eVar 0) pNone (pSome (eC (.int 2)))) aNil)) (eVar 2)) R = .ok (decide (b < maxL f.1 [f.2.1])) := t_gt (by rw [b1 es]; rfl) rfl
  have tt := t_orT t1 (fun _ => t2)
  have ea : eB gAbs (aCons (eIx (eVar 0) (eC (.int 2))) aNil) R = .ok (.nw (I f.2.2.natAbs)) := by
    rw [b1 e2]
    show gAbs [I f.2.2] = _
    rw [gAbs_ev, absI_eq]
  have ef : eAnd (eOp gLe (eB gAbs (aCons (eIx (eVar 0) (eC (.int 2))) aNil)) (eVar 3)) (eOr (eOp gLt (eVar 1) (eC (.int 0))) (eOp gGe (eIx (eVar 0) (eC (.int 2))) (eC (.int 0)))) R = .ok (.nw (.fz (.bl (decide ((f.2.2.natAbs : Int) ≤ c) && (decide (a < 0) || decide (0 ≤ f.2.2)))))) := by
    have a1 : eOp gLe (eB gAbs (aCons (eIx (eVar 0) (eC (.int 2))) aNil)) (eVar 3) R = .ok (.nw (.fz (.bl (decide ((f.2.2.natAbs : Int) ≤ c))))) := by rw [op_of ea (y := .nw (I c)) rfl]; rfl
    have a2 : eOp gLt (eVar 1) (eC (.int 0)) R = .ok (.nw (.fz (.bl (decide (a < 0))))) := by rw [op_of (x := .nw (I a)) rfl (eC_ev _)]; rfl
    have a3 : eOp gGe (eIx (eVar 0) (eC (.int 2))) (eC (.int 0)) R = .ok (.nw (.fz (.bl (decide (0 ≤ f.2.2))))) := by rw [op_of e2 (eC_ev _)]; rfl
    simp only [eAnd, eOr, a1, a2, a3, res_ok, ra_nw, er_fz, onB]
    cases decide ((f.2.2.natAbs : Int) ≤ c) <;> cases decide (a < 0) <;> rfl
  show runF 4 B_within _ = _
  unfold B_within wB
  generalize hb : (decide (minL f.1 [f.2.1] < a) || decide (b < maxL f.1 [f.2.1])) = q at tt
  cases q with
  | true => exact run_ret (seq_ret (if_t tt (ret_go rfl)))
  | false => exact run_ret (seq_go (if_f tt rfl) (ret_go ef))
theorem forL_ret {fg : FG} {F : FS} {x : R} {xs : List R} {r r1 : Env} {z : O} (h : fg x r = some r1) (h2 : F r1 = .ret z) : forL fg F (x :: xs) r = .ret z := by simp [forL, h, h2]
def icB (h l : T3) : Bool := wB h 0 3 9 && wB l (-3) 3 9 && !(decide (l.1 = 0) && decide (l.2.1 < 0)) && !(decide ((dif3 h l).1 = 0) && decide ((dif3 h l).2.1 < 0))
theorem choose_ok (h l : T3) : M_is_choose [.fz (t3 h), .fz (t3 l)] = .ok (.fz (.bl (icB h l))) := by
  let A : S := .vl false (.fz (t3 h))
  let B : S := .vl false (.fz (t3 l))
  have h0 : ∀ x, eIx (eVar 0) (eC (.int 0)) [A, B, x] = .ok (.nw (I h.1)) := fun x => ix_t 0 rfl rfl
  have h1 : ∀ x, eIx (eVar 0) (eC (.int 1)) [A, B, x] = .ok (.nw (I h.2.1)) := fun x => ix_t 1 rfl rfl
  have h2 : ∀ x, eIx (eVar 0) (eC (.int 2)) [A, B, x] = .ok (.nw (I h.2.2)) := fun x => ix_t 2 rfl rfl
  have l0 : ∀ x, eIx (eVar 1) (eC (.int 0)) [A, B, x] = .ok (.nw (I l.1)) := fun x => ix_t 0 rfl rfl
  have l1 : ∀ x, eIx (eVar 1) (eC (.int 1)) [A, B, x] = .ok (.nw (I l.2.1)) := fun x => ix_t 1 rfl rfl
  have l2 : ∀ x, eIx (eVar 1) (eC (.int 2)) [A, B, x] = .ok (.nw (I l.2.2)) := fun x => ix_t 2 rfl rfl
  have c1 : eCall M_within (aCons (eVar 0) (aCons (eC (.int 0)) (aCons (eC (.int 3)) (aCons (eC (.int 9)) aNil)))) [A, B, .un] = .ok (.nw (.fz (.bl (wB h 0 3 9)))) := call_ok (os := [.fz (t3 h), I 0, I 3, I 9]) rfl (within_ok _ _ _ _)
  have c2 : eCall M_within (aCons (eVar 1) (aCons (eUn gNeg (eC (.int 3))) (aCons (eC (.int 3)) (aCons (eC (.int 9)) aNil)))) [A, B, .un] = .ok (.nw (.fz (.bl (wB l (-3) 3 9)))) := call_ok (os := [.fz (t3 l), I (-3), I 3, I 9]) rfl (within_ok _ _ _ _)
  have tt := t_orT (tNot_ok (tOf_ok c1)) (fun _ => tNot_ok (tOf_ok c2))
  have eD : eTup (aCons (eOp gSub (eIx (eVar 0) (eC (.int 0))) (eIx (eVar 1) (eC (.int 0)))) (aCons (eOp gSub (eIx (eVar 0) (eC (.int 1))) (eIx (eVar 1) (eC (.int 1)))) (aCons (eOp gSub (eIx (eVar 0) (eC (.int 2))) (eIx (eVar 1) (eC (.int 2)))) aNil))) [A, B, .un] = .ok (.nw (.fz (t3 (dif3 h l)))) := e_t3 (e_sub (h0 _) (l0 _)) (e_sub (h1 _) (l1 _)) (e_sub (h2 _) (l2 _))
  have eI : iLst (eLst (aCons (eVar 1) (aCons (eTup (aCons (eOp gSub (eIx (eVar 0) (eC (.int 0))) (eIx (eVar 1) (eC (.int 0)))) (aCons (eOp gSub (eIx (eVar 0) (eC (.int 1))) (eIx (eVar 1) (eC (.int 1)))) (aCons (eOp gSub (eIx (eVar 0) (eC (.int 2))) (eIx (eVar 1) (eC (.int 2)))) aNil)))) aNil))) [A, B, .un] = .ok [.nw (.fz (t3 l)), .nw (.fz (t3 (dif3 h l)))] := by
    have : eLst (aCons (eVar 1) (aCons (eTup (aCons (eOp gSub (eIx (eVar 0) (eC (.int 0))) (eIx (eVar 1) (eC (.int 0)))) (aCons (eOp gSub (eIx (eVar 0) (eC (.int 1))) (eIx (eVar 1) (eC (.int 1)))) (aCons (eOp gSub (eIx (eVar 0) (eC (.int 2))) (eIx (eVar 1) (eC (.int 2)))) aNil)))) aNil)) [A, B, .un] = .ok (.nw (.ls [.fz (t3 l), .fz (t3 (dif3 h l))])) := by
      simp only [eLst, aCons_ev, eD, res_ok, aNil_ev, ra_nw, er_fz]; rfl
    simp only [iLst, this, res_ok]; rfl
  have tb : ∀ f : T3, tAndD (tOf (eOp gEq (eIx (eVar 2) (eC (.int 0))) (eC (.int 0)))) (tOf (eOp gLt (eIx (eVar 2) (eC (.int 1))) (eC (.int 0)))) [A, B, .vl true (.fz (t3 f))] = .ok (decide (f.1 = 0) && decide (f.2.1 < 0)) := fun f => t_andT (t_eq (ix_t 0 (ds := [.int f.1, .int f.2.1, .int f.2.2]) rfl rfl) (eC_ev _)) (fun _ => t_lt (ix_t 1 (ds := [.int f.1, .int f.2.1, .int f.2.2]) rfl rfl) (eC_ev _))
  show runF 3 B_is_choose _ = _
  unfold B_is_choose icB
  generalize hb : (!wB h 0 3 9 || !wB l (-3) 3 9) = q at tt
  cases q with
  | true =>
    rw [show (wB h 0 3 9 && wB l (-3) 3 9) = false by cases h1 : wB h 0 3 9 <;> cases h2 : wB l (-3) 3 9 <;> simp_all]
    exact run_ret (seq_ret (if_t tt (ret_go rfl)))
  | false =>
    rw [show (wB h 0 3 9 && wB l (-3) 3 9) = true by cases h1 : wB h 0 3 9 <;> cases h2 : wB l (-3) 3 9 <;> simp_all]
    refine run_ret (seq_go (if_f tt rfl) ?_)
    have tb1 := tb l
    have tb2 := tb (dif3 h l)
    cases q1 : (decide (l.1 = 0) && decide (l.2.1 < 0)) with
    | true =>
      rw [q1] at tb1
      refine seq_ret (for_go eI ?_)
      exact (forL_ret (r1 := [A, B, .vl true (.fz (t3 l))]) rfl (if_t tb1 (ret_go rfl)))
    | false =>
      rw [q1] at tb1
      cases q2 : (decide ((dif3 h l).1 = 0) && decide ((dif3 h l).2.1 < 0)) with
      | true =>
        rw [q2] at tb2
        refine seq_ret (for_go eI ?_)
        refine Eq.trans (forL_cons (r1 := [A, B, .vl true (.fz (t3 l))]) (r' := [A, B, .vl true (.fz (t3 l))]) rfl (if_f tb1 rfl)) ?_
        exact (forL_ret (r1 := [A, B, .vl true (.fz (t3 (dif3 h l)))]) rfl (if_t tb2 (ret_go rfl)))
      | false =>
        rw [q2] at tb2
        refine seq_go (r' := [A, B, .vl true (.fz (t3 (dif3 h l)))]) (for_go eI ?_) (ret_go rfl)
        refine Eq.trans (forL_cons (r1 := [A, B, .vl true (.fz (t3 l))]) (r' := [A, B, .vl true (.fz (t3 l))]) rfl (if_f tb1 rfl)) ?_
        exact Eq.trans (forL_cons (r1 := [A, B, .vl true (.fz (t3 (dif3 h l)))]) (r' := [A, B, .vl true (.fz (t3 (dif3 h l)))]) rfl (if_f tb2 rfl)) rfl
theorem okCh_ic {h l : T3} (hk : okCh h l) : icB h l = true := by
  obtain ⟨h0, h1, h2⟩ := h
  obtain ⟨l0, l1, l2⟩ := l
  unfold okCh at hk
  dsimp only at hk
  have m1 : ∀ x y : Int, minL x [y] = if y < x then y else x := fun x y => rfl
  have m2 : ∀ x y : Int, maxL x [y] = if x < y then y else x := fun x y => rfl
  simp only [icB, wB, dif3, m1, m2, Bool.and_eq_true, Bool.or_eq_true, Bool.not_eq_true', Bool.or_eq_false_iff, Bool.and_eq_false_iff, decide_eq_true_eq, decide_eq_false_iff_not]
  refine ⟨⟨⟨⟨⟨?_, ?_⟩, ?_⟩, ⟨?_, ?_⟩, ?_⟩, ?_⟩, ?_⟩ <;> (try split) <;> first | omega | (by_cases z : h0 - l0 = 0; exact Or.inr (decide_eq_false (by omega)); exact Or.inl (decide_eq_false z))
def gdPt : Pt → Bool
  | .ch h l => icB h l
  | .wt _ => true
  | .pw f => !decide (f.1 = 0)
  | .gr f => !decide (f.1 = 0)
theorem gd_of {p : Pt} (h : okPt p) : gdPt p = true := by
  cases p with
  | ch a b => exact okCh_ic h
  | wt f => rfl
  | pw f => simp [gdPt, h.1]
  | gr f => simp [gdPt, h.1]
def ptE (p : Pt) : D := er (ptO p)
theorem mkCh (h l : T3) : M_Choose___init__ [.fz (t3 h), .fz (t3 l)] = .ok (ptO (.ch h l)) := mI_of fun a => by
  simp [runI, startI, startE, B_Choose___init__, sFldM, eVar, eIx, ixO, atI, ixN, eTup, tupR, toDs, eLst, allFz, newO, TF_high, TF_lows, rowNs, ptO, dif3, show ¬ PySem.Str.ofString "lows" = PySem.Str.ofString "high" from by decide]
theorem mkWt (f : T3) : M_Weight___init__ [.fz (t3 f)] = .ok (ptO (.wt f)) := mI_of fun a => by
  simp [runI, startI, startE, B_Weight___init__, sFldM, eVar, newO, TF_form, rowNs, ptO]
theorem mkPw (f : Int × Int) : M_Power___init__ [.fz (fD f)] = .ok (ptO (.pw f)) := mI_of fun a => by
  simp [runI, startI, startE, B_Power___init__, sFldM, eVar, newO, TF_fraction, rowNs, ptO]
theorem mkGr (f : Int × Int) : M_Growth___init__ [.fz (fD f)] = .ok (ptO (.gr f)) := mI_of fun a => by
  simp [runI, startI, startE, B_Growth___init__, sFldM, eVar, newO, TF_fraction, rowNs, ptO]
theorem make_ok {F : List O → Res O} {fs : Env → Res (List O)} {r : Env} {os : List O} {o : O} (h : fs r = .ok os) (h2 : F os = .ok o) : eMake F fs r = .ok (.nw o) := by simp [eMake, h, h2]
theorem t_str {f : FE} {r : Env} {x y : PySem.Str} (h : f r = .ok (.nw (.fz (.str x)))) (hx : plainD 0 (.str x) = true) (hy : plainD 0 (.str y) = true) : tOf (eOp gEq f (eC (.str y))) r = .ok (decide (x = y)) := by
  rw [tOf_ev, op_of h (eC_ev _), ra_nw, er_fz, ra_nw, er_fz, gEq_str hx hy]; rfl
theorem made_pt (p : Pt) : M_made_part [.fz (ptD p)] = if gdPt p then .ok (ptO p) else .exc ⟨"NoTerm", []⟩ := by
  have key : ∀ (x : PySem.Str) (ds : List D) (hx : plainD 0 (.str x) = true), (∀ y : PySem.Str, plainD 0 (.str y) = true → tOf (eOp gEq (eVar 1) (eC (.str y))) [.vl false (.fz (.tup (.str x :: ds))), .vl true (.fz (.str x))] = .ok (decide (x = y))) ∧ sSet 1 false (eIx (eVar 0) (eC (.int 0))) [.vl false (.fz (.tup (.str x :: ds))), .un] = .nx [.vl false (.fz (.tup (.str x :: ds))), .vl true (.fz (.str x))] := fun x ds hx =>
    ⟨fun y hy => t_str rfl hx hy, set_go (x := .nw (.fz (.str x))) (ix_t 0 (ds := .str x :: ds) rfl rfl) rfl (by simp)⟩
  have p1 : plainD 0 (.str "choose") = true := by decide +kernel
  have p2 : plainD 0 (.str "weight") = true := by decide +kernel
  have p3 : plainD 0 (.str "power") = true := by decide +kernel
  have p4 : plainD 0 (.str "growth") = true := by decide +kernel
  cases p with
  | ch h l =>
    obtain ⟨k1, k2⟩ := key "choose" [t3 h, t3 l] p1
    let R : Env := [.vl false (.fz (ptD (.ch h l))), .vl true (.fz (.str "choose"))]
    have a1 : eIx (eVar 0) (eC (.int 1)) R = .ok (.nw (.fz (t3 h))) := ix_t 1 (ds := [.str "choose", t3 h, t3 l]) rfl rfl
    have a2 : eIx (eVar 0) (eC (.int 2)) R = .ok (.nw (.fz (t3 l))) := ix_t 2 (ds := [.str "choose", t3 h, t3 l]) rfl rfl
    have tc := t_andT (k1 "choose" p1) (fun _ => tOf_ok (call2 (r := R) a1 a2 (choose_ok h l)))
    show runF 2 B_made_part _ = _
    unfold B_made_part
    cases hg : icB h l with
    | true =>
      rw [hg] at tc
      rw [show gdPt (.ch h l) = true from hg]
      refine run_ret (seq_go k2 (seq_ret (if_t tc (ret_go (make_ok (os := [.fz (t3 h), .fz (t3 l)]) ?_ (mkCh h l))))))
      simp only [aCons_ev, a1, a2, res_ok, aNil_ev, ra_nw, er_fz, R]
      show (eIx (eVar 0) (eC (.int 1)) R).bind _ = _
      rw [a1, res_ok]
      show ((eIx (eVar 0) (eC (.int 2)) R).bind _).bind _ = _
      rw [a2]; rfl
    | false =>
      rw [hg] at tc
      rw [show gdPt (.ch h l) = false from hg]
      exact run_exc (seq_go k2 (seq_go (if_f tc rfl) (seq_go (if_f (k1 _ p2) rfl) (seq_go (if_f (by rw [tAnd_ev, k1 _ p3]; rfl) rfl) (seq_go (if_f (by rw [tAnd_ev, k1 _ p4]; rfl) rfl) rfl)))))
  | wt f =>
    obtain ⟨k1, k2⟩ := key "weight" [t3 f] p2
    let R : Env := [.vl false (.fz (ptD (.wt f))), .vl true (.fz (.str "weight"))]
    have a1 : eIx (eVar 0) (eC (.int 1)) R = .ok (.nw (.fz (t3 f))) := ix_t 1 (ds := [.str "weight", t3 f]) rfl rfl
    show runF 2 B_made_part _ = _
    unfold B_made_part
    refine run_ret (seq_go k2 (seq_go (if_f (by rw [tAnd_ev, k1 _ p1]; rfl) rfl) (seq_ret (if_t (k1 _ p2) (ret_go (make_ok (os := [.fz (t3 f)]) ?_ (mkWt f)))))))
    show (eIx (eVar 0) (eC (.int 1)) R).bind _ = _
    rw [a1]; rfl
  | pw f =>
    obtain ⟨k1, k2⟩ := key "power" [fD f] p3
    let R : Env := [.vl false (.fz (ptD (.pw f))), .vl true (.fz (.str "power"))]
    have a1 : eIx (eVar 0) (eC (.int 1)) R = .ok (.nw (.fz (fD f))) := ix_t 1 (ds := [.str "power", fD f]) rfl rfl
    have a0 : eIx (eIx (eVar 0) (eC (.int 1))) (eC (.int 0)) R = .ok (.nw (I f.1)) := ix_t 0 (ds := [.int f.1, .int f.2]) a1 rfl
    have tc := t_andT (k1 "power" p3) (fun _ => t_ne (r := R) a0 (eC_ev (.int 0)))
    show runF 2 B_made_part _ = _
    unfold B_made_part
    by_cases hz : f.1 = 0
    · rw [decide_eq_true hz] at tc
      rw [show gdPt (.pw f) = false by simp [gdPt, hz]]
      exact run_exc (seq_go k2 (seq_go (if_f (by rw [tAnd_ev, k1 _ p1]; rfl) rfl) (seq_go (if_f (k1 _ p2) rfl) (seq_go (if_f tc rfl) (seq_go (if_f (by rw [tAnd_ev, k1 _ p4]; rfl) rfl) rfl)))))
    · rw [decide_eq_false hz] at tc
      rw [show gdPt (.pw f) = true by simp [gdPt, hz]]
      refine run_ret (seq_go k2 (seq_go (if_f (by rw [tAnd_ev, k1 _ p1]; rfl) rfl) (seq_go (if_f (k1 _ p2) rfl) (seq_ret (if_t tc (ret_go (make_ok (os := [.fz (fD f)]) ?_ (mkPw f))))))))
      show (eIx (eVar 0) (eC (.int 1)) R).bind _ = _
      rw [a1]; rfl
  | gr f =>
    obtain ⟨k1, k2⟩ := key "growth" [fD f] p4
    let R : Env := [.vl false (.fz (ptD (.gr f))), .vl true (.fz (.str "growth"))]
    have a1 : eIx (eVar 0) (eC (.int 1)) R = .ok (.nw (.fz (fD f))) := ix_t 1 (ds := [.str "growth", fD f]) rfl rfl
    have a0 : eIx (eIx (eVar 0) (eC (.int 1))) (eC (.int 0)) R = .ok (.nw (I f.1)) := ix_t 0 (ds := [.int f.1, .int f.2]) a1 rfl
    have tc := t_andT (k1 "growth" p4) (fun _ => t_ne (r := R) a0 (eC_ev (.int 0)))
    show runF 2 B_made_part _ = _
    unfold B_made_part
    by_cases hz : f.1 = 0
    · rw [decide_eq_true hz] at tc
      rw [show gdPt (.gr f) = false by simp [gdPt, hz]]
      exact run_exc (seq_go k2 (seq_go (if_f (by rw [tAnd_ev, k1 _ p1]; rfl) rfl) (seq_go (if_f (k1 _ p2) rfl) (seq_go (if_f (by rw [tAnd_ev, k1 _ p3]; rfl) rfl) (seq_go (if_f tc rfl) rfl)))))
    · rw [decide_eq_false hz] at tc
      rw [show gdPt (.gr f) = true by simp [gdPt, hz]]
      refine run_ret (seq_go k2 (seq_go (if_f (by rw [tAnd_ev, k1 _ p1]; rfl) rfl) (seq_go (if_f (k1 _ p2) rfl) (seq_go (if_f (by rw [tAnd_ev, k1 _ p3]; rfl) rfl) (seq_ret (if_t tc (ret_go (make_ok (os := [.fz (fD f)]) ?_ (mkGr f)))))))))
      show (eIx (eVar 0) (eC (.int 1)) R).bind _ = _
      rw [a1]; rfl
def IsP (o : O) (ps : List Pt) : Prop := o = .ls (oPt ps) ∨ o = .fz (LPt ps)
theorem plain_s (n : Nat) (x : PySem.Str) (h : PySem.PyData.canLay0 (.str x) = true) : plainD n (.str x) = true := by
  cases n <;> simpa [plainD] using h
theorem plain_pt (n : Nat) (p : Pt) : plainD (n + 2) (ptD p) = true := by
  have p1 := plain_s (n + 1) "choose" (by decide +kernel)
  have p2 := plain_s (n + 1) "weight" (by decide +kernel)
  have p3 := plain_s (n + 1) "power" (by decide +kernel)
  have p4 := plain_s (n + 1) "growth" (by decide +kernel)
  have t : ∀ f : T3, plainD (n + 1) (t3 f) = true := fun f => by simp [plainD]
  have u : ∀ f : Int × Int, plainD (n + 1) (fD f) = true := fun f => by simp [plainD]
  cases p with
  | ch h l => exact plain_tup (by simp [p1, t])
  | wt f => exact plain_tup (by simp [p2, t])
  | pw f => exact plain_tup (by simp [p3, u])
  | gr f => exact plain_tup (by simp [p4, u])
theorem plain_LPt (n : Nat) (ps : List Pt) : plainD (n + 3) (LPt ps) = true := by
  show (ps.map ptD).all (plainD (n + 2)) = true
  exact List.all_eq_true.mpr fun d hd => by
    obtain ⟨p, _, rfl⟩ := List.mem_map.mp hd
    exact plain_pt n p
theorem gEq_nilL {o : O} {d : D} {ds : List D} (h : er o = .lst (d :: ds)) (hp : plainD 20 (.lst (d :: ds)) = true) : gEq o (.fz (.lst [])) = .ok (.nw (.fz (.bl false))) := by
  obtain ⟨p, e1, e2, e3⟩ := plain_py 20 _ hp
  have hs : PySem.SeqAt.shaped p = true := by
    unfold PySem.SeqAt.shaped
    rw [e2, decide_eq_true (by omega)]; rfl
  have hs0 : PySem.SeqAt.shaped (.list []) = true := by decide +kernel
  rcases int_cases o (.fz (.lst [])) with ⟨i, j, rfl, _⟩ | ⟨e, _⟩
  · cases h
  · rw [e]
    have e1' : (pys (d :: ds)).map PySem.PyData.list = some p := e1
    cases hq : pys (d :: ds) with
    | none => rw [hq] at e1'; cases e1'
    | some qs =>
      rw [hq] at e1'
      cases e1'
      have hne : qs ≠ [] := by
        intro z; subst z
        simp only [pys] at hq
        cases h1 : py d with
        | none => rw [h1] at hq; cases hq
        | some x =>
          rw [h1] at hq
          cases h2 : pys ds with
          | none => rw [h2] at hq; cases hq
          | some y => rw [h2] at hq; cases hq
      obtain ⟨x, xs, rfl⟩ := List.exists_cons_of_ne_nil hne
      have e0 : py (.lst []) = some (.list []) := rfl
      simp only [gEqD, h, er_fz, eqD, e1, e0, hs, hs0, Bool.and_self, if_true]
      rw [show (PySem.PyData.list (x :: xs)).eqv (.list []) = false from by rw [PySem.PyData.eqv]; simp [PySem.PyData.eqvAll]]
      rfl
theorem IsP.er {o : O} {ps : List Pt} (h : IsP o ps) : er o = LPt ps := by
  rcases h with rfl | rfl
  · exact er_oPt ps
  · rfl
theorem IsP.items {o : O} {ps : List Pt} (h : IsP o ps) : items o = some (oPt ps) := by
  rcases h with rfl | rfl
  · rfl
  · simp [oPt]
theorem IsP.its {o : O} {ps : List Pt} (h : IsP o ps) : itsL (see false o) = .ok (ps.map fun p => .nw (.fz (ptD p))) := by
  rcases h with rfl | rfl
  · simp [itsL, oPt]
  · simp [itsL, oPt]
theorem len_P {f : FE} {r : Env} {w : Bool} {o : O} {ps : List Pt} (hf : f r = .ok (see w o)) (h : IsP o ps) : eB gLen (aCons f aNil) r = .ok (.nw (I ps.length)) := by
  rw [b1 hf, see_a]
  have e : lenO o = some ps.length := by
    rcases h with rfl | rfl
    · show (DL.items (.ls (oPt ps))).map List.length = _
      simp
    · show (DL.items (.fz (LPt ps))).map List.length = _
      simp
  simp only [gLen, e]; rfl
def tmO (ps : List Pt) : O := .ob "Term" ["made", "words"] [.ls (ps.map ptO), .ls (oPt ps)]
def tmE (ps : List Pt) : D := .obj "Term" ["made", "words"] [.lst (ps.map ptE), LPt ps]
theorem er_tm (ps : List Pt) : er (tmO ps) = tmE ps := by
  show D.obj _ _ (ers [.ls (ps.map ptO), .ls (oPt ps)]) = _
  rw [ers_eq, List.map_cons, List.map_cons, List.map_nil, er_oPt, er_ls, ers_eq, List.map_map]; rfl
theorem list_P {f : FE} {r : Env} {w : Bool} {o : O} {ps : List Pt} (hf : f r = .ok (see w o)) (h : IsP o ps) : eB gList (aCons f aNil) r = .ok (.nw (.ls (oPt ps))) := by
  rw [b1 hf, see_a]
  simp only [gList, h.items]
  rw [if_pos (allFz_oPt ps)]
theorem term_made {o : O} {ps : List Pt} (h : IsP o ps) (h1 : 1 ≤ ps.length) (h6 : ps.length ≤ 6) (hg : ∀ p ∈ ps, gdPt p = true) : M_Term___init__ [o] = .ok (tmO ps) := mI_of fun a => by
  have v1 : ∀ (x y : S), eVar 1 [x, .vl false o, y] = .ok (see false o) := fun x y => rfl
  have tl : ∀ x y, tOf (eOp gGt (eB gLen (aCons (eVar 1) aNil)) (eC (.int 6))) [x, .vl false o, y] = .ok false := fun x y => by
    rw [t_gt (len_P (v1 x y) h) (eC_ev _), decide_eq_false (by omega)]
  have te : ∀ x y, tOf (eOp gEq (eVar 1) (eLst aNil)) [x, .vl false o, y] = .ok false := fun x y => by
    obtain ⟨p, ps', rfl⟩ := List.exists_cons_of_length_pos (show 0 < ps.length by omega)
    rw [tOf_ev, op_of (v1 x y) (y := .nw (.ls [])) rfl, see_a]
    show (gEq o (.fz (.lst []))).bind toB = _
    rw [gEq_nilL (d := ptD p) (ds := ps'.map ptD) h.er (plain_LPt 17 (p :: ps'))]; rfl
  have lc : ∀ x, eLcD (iLst (eVar 1)) (gN 2) [2] tYesD (eCall M_made_part (aCons (eVar 2) aNil)) [x, .vl false o, .un] = .ok (.nw (.ls (ps.map ptO))) := fun x => by
    refine lcD_map (g := fun p => .nw (.fz (ptD p))) ?_ (by simp) (fun p hp => ⟨[x, .vl false o, .vl true (.fz (ptD p))], by simp [wipeE], call1 (x := .nw (.fz (ptD p))) rfl ?_⟩) (by omega)
    · rw [iLst, v1, res_ok, h.its]
    · rw [ra_nw, er_fz, made_pt, hg p hp]; rfl
  show runI 3 "Term" B_Term___init__ a [o] = _
  unfold runI B_Term___init__
  have e : sSeq (sIf (tOrD (tOf (eOp gEq (eVar 1) (eLst aNil))) (tOf (eOp gGt (eB gLen (aCons (eVar 1) aNil)) (eC (.int 6))))) (sRaise "NoTerm") sNil) (sSeq (sFldM TF_made 0 "made" (eLcD (iLst (eVar 1)) (gN 2) [2] tYesD (eCall M_made_part (aCons (eVar 2) aNil)))) (sFldM TF_words 0 "words" (eB gList (aCons (eVar 1) aNil)))) (startI 3 "Term" a [o]) = .nx [.me a (tmO ps), .vl false o, .un] := by
    show sSeq _ _ [.me a (.ob "Term" [] []), .vl false o, .un] = _
    refine seq_go (r' := [.me a (.ob "Term" [] []), .vl false o, .un]) (if_f (by rw [tOr_ev, te, res_ok]; exact tl _ _) rfl) (seq_go (r' := [.me a (.ob "Term" ["made"] [.ls (ps.map ptO)]), .vl false o, .un]) ?_ ?_)
    · simp only [sFldM, sUse_ev, lc, newO]
      simp [TF_made, rowNs]
    · simp only [sFldM, sUse_ev, list_P (v1 _ _) h, newO]
      simp [TF_words, rowNs, tmO, show ¬ PySem.Str.ofString "words" = PySem.Str.ofString "made" from by decide]
  rw [e]
  simp
abbrev PK := Int × Int
abbrev PP := List (PK × Int)
def kk (k : PK) : List L2.Key := [.inl k.1, .inl k.2]
theorem kk_inj {a b : PK} (h : kk a = kk b) : a = b := by
  obtain ⟨x, y⟩ := a
  obtain ⟨z, w⟩ := b
  simp [kk] at h
  rw [h.1, h.2]
abbrev pks (p : PP) : List (List L2.Key) := p.map fun x => kk x.1
abbrev pvs (p : PP) : List D := p.map fun x => .int x.2
abbrev pO (p : PP) : O := .dt (pks p) (pvs p)
abbrev pD (p : PP) : D := .dct (pks p) (pvs p)
def IsQ (o : O) (p : PP) : Prop := o = pO p ∨ o = .fz (pD p)
theorem IsQ.d {o : O} {p : PP} (h : IsQ o p) : dctO o = some (pks p, pvs p) := by rcases h with rfl | rfl <;> rfl
def gt : PP → PK → Option Int
  | [], _ => none
  | x :: p, k => if x.1 = k then some x.2 else gt p k
def gv (p : PP) (k : PK) : Int := (gt p k).getD 0
def stp : PP → PK → Int → PP
  | [], k, v => [(k, v)]
  | x :: p, k, v => if x.1 = k then (k, v) :: p else x :: stp p k v
theorem valP_gt : ∀ (p : PP) (k : PK), valP (pks p) (pvs p) (kk k) = (gt p k).map D.int
  | [], k => rfl
  | x :: p, k => by
    show (if kk x.1 = kk k then some (D.int x.2) else valP (pks p) (pvs p) (kk k)) = _
    unfold gt
    by_cases h : x.1 = k
    · rw [if_pos (by rw [h]), if_pos h]; rfl
    · rw [if_neg (fun z => h (kk_inj z)), if_neg h]; exact valP_gt p k
theorem putP_put : ∀ (p : PP) (k : PK) (v : Int), putP (pks p) (pvs p) (kk k) (.int v) = (pks (stp p k v), pvs (stp p k v))
  | [], k, v => rfl
  | x :: p, k, v => by
    show (if kk x.1 = kk k then _ else _) = _
    unfold stp
    by_cases h : x.1 = k
    · rw [if_pos (by rw [h]), if_pos h]
      simp [h]
    · rw [if_neg (fun z => h (kk_inj z)), if_neg h, putP_put p k v]; rfl
def keysP (p : PP) : List PK := p.map (·.1)
theorem gt_none {p : PP} {k : PK} : gt p k = none ↔ k ∉ keysP p := by
  induction p with
  | nil => simp [gt, keysP]
  | cons x p ih =>
    unfold gt
    by_cases h : x.1 = k
    · rw [if_pos h]; simp [keysP, h]
    · rw [if_neg h, ih]
      have h' : ¬ k = x.1 := fun z => h z.symm
      simp [keysP, h']
theorem gt_mem {p : PP} {k : PK} {v : Int} (n : (keysP p).Nodup) : gt p k = some v ↔ (k, v) ∈ p := by
  induction p with
  | nil => simp [gt]
  | cons x p ih =>
    have n' := List.nodup_cons.mp n
    unfold gt
    by_cases h : x.1 = k
    · rw [if_pos h]
      constructor
      · intro e
        have : x.2 = v := Option.some.inj e
        exact List.mem_cons.mpr (.inl (by rw [← h, ← this]))
      · intro m
        rcases List.mem_cons.mp m with e | m
        · rw [← e]
        · exact absurd (List.mem_map.mpr ⟨(k, v), m, rfl⟩) (by rw [← h]; exact n'.1)
    · rw [if_neg h, ih n'.2]
      constructor
      · exact List.mem_cons_of_mem _
      · intro m
        rcases List.mem_cons.mp m with e | m
        · exact absurd (by rw [← e]) h
        · exact m
theorem keys_put (p : PP) (k : PK) (v : Int) : keysP (stp p k v) = if k ∈ keysP p then keysP p else keysP p ++ [k] := by
  induction p with
  | nil => simp [stp, keysP]
  | cons x p ih =>
    unfold stp
    by_cases h : x.1 = k
    · rw [if_pos h, if_pos (by simp [keysP, h])]
      simp [keysP, h]
    · rw [if_neg h]
      show x.1 :: keysP (stp p k v) = _
      rw [ih]
      by_cases h2 : k ∈ keysP p
      · rw [if_pos h2, if_pos (by simp [keysP]; right; simpa [keysP] using h2)]; rfl
      · have h' : ¬ k = x.1 := fun z => h z.symm
        rw [if_neg h2, if_neg (by simp [keysP, h']; simpa [keysP] using h2)]; rfl
theorem nodup_put {p : PP} (n : (keysP p).Nodup) (k : PK) (v : Int) : (keysP (stp p k v)).Nodup := by
  rw [keys_put]
  split
  · exact n
  · rename_i h
    exact List.nodup_append.mpr ⟨n, by simp, fun a ha b hb => by
      have : b = k := by simpa using hb
      rw [this]; exact fun z => h (z ▸ ha)⟩
theorem gt_put (p : PP) (k : PK) (v : Int) (j : PK) : gt (stp p k v) j = if j = k then some v else gt p j := by
  induction p with
  | nil =>
    show (if k = j then some v else none) = _
    by_cases h : j = k
    · rw [if_pos h, if_pos h.symm]
    · rw [if_neg h, if_neg (fun z => h z.symm)]; rfl
  | cons x p ih =>
    unfold stp
    by_cases h : x.1 = k
    · rw [if_pos h]
      show (if k = j then some v else gt p j) = if j = k then some v else (if x.1 = j then some x.2 else gt p j)
      by_cases h2 : j = k
      · rw [if_pos h2, if_pos h2.symm]
      · rw [if_neg h2, if_neg (fun z => h2 z.symm), if_neg (fun z => h2 (by rw [← z, h]))]
    · rw [if_neg h]
      show (if x.1 = j then some x.2 else gt (stp p k v) j) = if j = k then some v else (if x.1 = j then some x.2 else gt p j)
      rw [ih]
      by_cases h2 : x.1 = j
      · rw [if_pos h2, if_pos h2, if_neg (fun z => h (by rw [h2, z]))]
      · rw [if_neg h2, if_neg h2]
theorem gv_put (p : PP) (k : PK) (v : Int) (j : PK) : gv (stp p k v) j = if j = k then v else gv p j := by
  unfold gv
  rw [gt_put]
  split <;> rfl
theorem put_new {p : PP} {k : PK} (h : k ∉ keysP p) (v : Int) : stp p k v = p ++ [(k, v)] := by
  induction p with
  | nil => rfl
  | cons x p ih =>
    unfold stp
    have h1 : ¬ x.1 = k := fun z => h (by simp [keysP, z])
    rw [if_neg h1, ih (fun z => h (by simp [keysP] at z ⊢; right; exact z))]; rfl
def nzP (p : PP) : PP := p.filter fun x => decide (x.2 ≠ 0)
theorem nzP_nodup {p : PP} (n : (keysP p).Nodup) : (keysP (nzP p)).Nodup := n.sublist (List.Sublist.map _ List.filter_sublist)
theorem gv_nz {p : PP} (n : (keysP p).Nodup) (k : PK) : gv (nzP p) k = gv p k := by
  unfold gv
  cases h : gt p k with
  | none =>
    have : gt (nzP p) k = none := gt_none.mpr fun z => gt_none.mp h ((List.Sublist.map _ List.filter_sublist).subset z)
    rw [this]
  | some v =>
    have hm := (gt_mem n).mp h
    by_cases h0 : v = 0
    · have : gt (nzP p) k = none := gt_none.mpr fun z => by
        obtain ⟨x, hx, e⟩ := List.mem_map.mp z
        obtain ⟨hx1, hx2⟩ := List.mem_filter.mp hx
        have : gt p k = some x.2 := (gt_mem n).mpr (by rw [← e]; exact hx1)
        rw [h] at this
        have := Option.some.inj this
        rw [← this, h0] at hx2
        simp at hx2
      rw [this, h0]; rfl
    · rw [(gt_mem (nzP_nodup n)).mpr (List.mem_filter.mpr ⟨hm, by simpa using h0⟩)]
def sk (xs : PP) (k : PK) : Int := (xs.map fun x => if x.1 = k then x.2 else 0).sum
def addP (p : PP) (x : PK × Int) : PP := stp p x.1 (gv p x.1 + x.2)
theorem fold_nodup : ∀ (xs : PP) {p : PP}, (keysP p).Nodup → (keysP (xs.foldl addP p)).Nodup
  | [], _, n => n
  | x :: xs, p, n => fold_nodup xs (nodup_put n _ _)
theorem fold_gv : ∀ (xs : PP) (p : PP) (k : PK), gv (xs.foldl addP p) k = gv p k + sk xs k
  | [], p, k => by show gv p k = gv p k + 0; omega
  | x :: xs, p, k => by
    rw [List.foldl_cons, fold_gv xs (addP p x) k]
    unfold addP
    rw [gv_put]
    unfold sk
    rw [List.map_cons, List.sum_cons]
    by_cases h : k = x.1
    · rw [if_pos h, if_pos h.symm, h]; omega
    · rw [if_neg h, if_neg (fun z => h z.symm)]; omega
theorem pk_len_le : ∀ {xs ys : List PK}, xs.Nodup → (∀ k ∈ xs, k ∈ ys) → xs.length ≤ ys.length
  | [], ys, _, _ => by simp
  | x :: xs, ys, n, h => by
    have n' := List.nodup_cons.mp n
    have hx := h x List.mem_cons_self
    have := pk_len_le (ys := ys.erase x) n'.2 fun k hk => by
      have hne : k ≠ x := fun z => n'.1 (z ▸ hk)
      exact (List.mem_erase_of_ne hne).mpr (h k (List.mem_cons_of_mem _ hk))
    rw [List.length_erase_of_mem hx] at this
    have := List.length_pos_of_mem hx
    rw [List.length_cons]; omega
structure Cl (p : PP) : Prop where
  n : (keysP p).Nodup
  z : ∀ x ∈ p, x.2 ≠ 0
theorem Cl.nzP {p : PP} (n : (keysP p).Nodup) : Cl (nzP p) := ⟨nzP_nodup n, fun x hx => by
  have := (List.mem_filter.mp hx).2
  simpa using this⟩
theorem Cl.key {p : PP} (h : Cl p) (k : PK) : k ∈ keysP p ↔ gv p k ≠ 0 := by
  constructor
  · intro hk
    obtain ⟨x, hx, e⟩ := List.mem_map.mp hk
    have : gt p k = some x.2 := (gt_mem h.n).mpr (by rw [← e]; exact hx)
    unfold gv
    rw [this]
    exact h.z x hx
  · intro hv
    refine Classical.byContradiction fun hk => hv ?_
    unfold gv
    rw [gt_none.mpr hk]; rfl
theorem Cl.same {p q : PP} (hp : Cl p) (hq : Cl q) (h : ∀ k, gv p k = gv q k) : p.length = q.length ∧ ∀ x ∈ p, gt q x.1 = some x.2 := by
  have l1 : (keysP p).length = p.length := List.length_map _
  have l2 : (keysP q).length = q.length := List.length_map _
  have a := pk_len_le hp.n (ys := keysP q) fun k hk => (hq.key k).mpr (by rw [← h]; exact (hp.key k).mp hk)
  have b := pk_len_le hq.n (ys := keysP p) fun k hk => (hp.key k).mpr (by rw [h]; exact (hq.key k).mp hk)
  refine ⟨by omega, fun x hx => ?_⟩
  have g1 : gt p x.1 = some x.2 := (gt_mem hp.n).mpr hx
  have hk : x.1 ∈ keysP q := (hq.key x.1).mpr (by rw [← h]; unfold gv; rw [g1]; exact hp.z x hx)
  have hv := h x.1
  unfold gv at hv
  rw [g1] at hv
  cases g2 : gt q x.1 with
  | none => exact absurd hk (gt_none.mp g2)
  | some w => rw [g2] at hv; exact congrArg some hv.symm
def ent (P : PP) : List (List L2.Key × D) := P.map fun x => (kk x.1, D.int x.2)
theorem zip_ent (P : PP) : (pks P).zip (pvs P) = ent P := by
  unfold ent
  rw [List.zip_map']
theorem IsQ.dI {o : O} {P : PP} (h : IsQ o P) : DL.dI false o = some (ent P) := by
  rcases h with rfl | rfl
  · show (if false = false ∧ (pks P).length = (pvs P).length then some ((pks P).zip (pvs P)) else none) = _
    rw [if_pos ⟨rfl, by simp⟩, zip_ent]
  · show (if (pks P).length = (pvs P).length then some ((pks P).zip (pvs P)) else none) = _
    rw [if_pos (by simp), zip_ent]
theorem forD_pp {m n : Nat} {F : FS} {P : PP} (I : PP → Env → Prop) (h : ∀ d x e r, d ++ x :: e = P → I d r → m < r.length ∧ n < r.length ∧ ∃ r', F ((r.set m (.tq (kk x.1))).set n (VI x.2)) = .nx r' ∧ I (d ++ [x]) r') :
    ∀ (rest done : PP) (r : Env), done ++ rest = P → I done r → ∃ r', forD m n F (ent rest) r = .nx r' ∧ I P r'
  | [], done, r, e, hi => ⟨r, rfl, by rw [List.append_nil] at e; rw [← e]; exact hi⟩
  | x :: rest, done, r, e, hi => by
    obtain ⟨h1, h2, r', h3, h4⟩ := h done x rest r e hi
    obtain ⟨r2, h5, h6⟩ := forD_pp I h rest (done ++ [x]) r' (by simpa using e) h4
    refine ⟨r2, ?_, h6⟩
    show (if m < r.length ∧ n < r.length then _ else _) = _
    rw [if_pos ⟨h1, h2⟩]
    show (match F ((r.set m (.tq (kk x.1))).set n (VI x.2)) with | .nx r' => _ | .ct r' => _ | .bk r' => _ | .ret o => _ | _ => _) = _
    rw [h3]
    exact h5
theorem fordi_go {i m n : Nat} {F : FS} {P : PP} {r : Env} {w : Bool} {o : O} (hr : r[i]? = some (.vl w o)) (hd : DL.dI w o = some (ent P)) (I : PP → Env → Prop) (h0 : I [] r) (h : ∀ d x e r, d ++ x :: e = P → I d r → m < r.length ∧ n < r.length ∧ ∃ r', F ((r.set m (.tq (kk x.1))).set n (VI x.2)) = .nx r' ∧ I (d ++ [x]) r') : ∃ r', sForDI i m n F r = .nx r' ∧ I P r' := by
  obtain ⟨r', h1, h2⟩ := forD_pp I h P [] r rfl h0
  refine ⟨r', ?_, h2⟩
  unfold sForDI
  rw [hr]
  show (match DL.dI w o with | some ps => forD m n F ps r | none => .bad) = _
  rw [hd]; exact h1
theorem pks_nodup {p : PP} (n : (keysP p).Nodup) : (pks p).Nodup := by
  have e : pks p = (keysP p).map kk := by unfold keysP; rw [List.map_map]; rfl
  rw [e, List.Nodup, List.pairwise_map]
  exact List.Pairwise.imp (fun h z => h (kk_inj z)) n
theorem dput_go {i : Nat} {f g : FE} {r : Env} {p : PP} {k : PK} {v : Int} {x y : R} (h1 : f r = .ok x) (hx : x.a = .fz (.int v)) (hp : r[i]? = some (.vl true (pO p))) (h2 : g r = .ok y) (hy : keyO y.a = some (kk k)) (hn : (keysP p).Nodup) (hl : p.length < 100000) : sDPutL i f g r = .nx (r.set i (.vl true (pO (stp p k v)))) := by
  unfold sDPutL sUse
  simp only [h1, hx, hp, h2, hy]
  rw [if_pos ⟨pks_nodup hn, by simp, by simpa using hl⟩, putP_put]
theorem dget_go {i : Nat} {g : FE} {r : Env} {p : PP} {k : PK} {w : Bool} {o : O} {y : R} (hp : r[i]? = some (.vl w o)) (ho : dctO o = some (pks p, pvs p)) (h2 : g r = .ok y) (hy : keyO y.a = some (kk k)) : eDGet2 i g 0 r = .ok (.nw (I (gv p k))) := by
  unfold eDGet2
  simp only [hp, ho, h2, res_ok, hy, valP_gt]
  unfold gv
  cases gt p k <;> rfl
theorem key_tq (k : PK) : keyO (kO (kk k)) = some (kk k) := rfl
theorem e_tq {i : Nat} {r : Env} {k : List L2.Key} (h : r[i]? = some (.tq k)) : eVar i r = .ok (.vw (kO k)) := by
  unfold eVar; rw [h]
def nB : FS := (sSeq (sSet 1 true eDNew) (sSeq (sForDI 0 2 3 (sIf (tOf (eOp gNe (eVar 3) (eC (.int 0)))) (sDPutL 1 (eVar 3) (eVar 2)) sNil)) (sRetV 1)))
theorem nB_ok {o : O} {P : PP} (h : IsQ o P) (hn : (keysP P).Nodup) (hl : P.length < 100000) : runF 4 nB [o] = .ok (pO (nzP P)) := by
  let E (f : PP) (a b : S) : Env := [.vl false o, .vl true (pO f), a, b]
  obtain ⟨r', hf, a, b, er⟩ := fordi_go (i := 0) (m := 2) (n := 3) (F := sIf (tOf (eOp gNe (eVar 3) (eC (.int 0)))) (sDPutL 1 (eVar 3) (eVar 2)) sNil) (P := P) (r := E [] U U) (w := false) (o := o) rfl h.dI (fun d r => ∃ a b, r = E (nzP d) a b) ⟨U, U, rfl⟩ (fun d x e r hp ⟨a, b, er⟩ => by
    subst er
    let R : Env := E (nzP d) (.tq (kk x.1)) (VI x.2)
    refine ⟨by simp [E], by simp [E], ?_⟩
    have tn : tOf (eOp gNe (eVar 3) (eC (.int 0))) R = .ok (!decide (x.2 = 0)) := t_ne (a := x.2) rfl (eC_ev _)
    by_cases h0 : x.2 = 0
    · refine ⟨R, if_f (tn.trans (by rw [decide_eq_true h0]; rfl)) rfl, .tq (kk x.1), VI x.2, ?_⟩
      have : nzP (d ++ [x]) = nzP d := by unfold nzP; rw [List.filter_append]; simp [h0]
      rw [this]
    · have hk : x.1 ∉ keysP d := fun z => by
        have : (keysP P) = keysP d ++ (x.1 :: keysP e) := by rw [← hp]; simp [keysP]
        rw [this] at hn
        exact (List.nodup_append.mp hn).2.2 _ z _ List.mem_cons_self rfl
      have hnd : (keysP (nzP d)).Nodup := nzP_nodup (by
        have : (keysP P) = keysP d ++ (x.1 :: keysP e) := by rw [← hp]; simp [keysP]
        rw [this] at hn
        exact (List.nodup_append.mp hn).1)
      have hk2 : x.1 ∉ keysP (nzP d) := fun z => hk ((List.Sublist.map _ List.filter_sublist).subset z)
      have hlen : (nzP d).length < 100000 := by
        have h1 : (nzP d).length ≤ d.length := List.length_filter_le _ _
        have h2 : d.length ≤ P.length := by rw [← hp]; simp
        omega
      refine ⟨_, if_t (tn.trans (by rw [decide_eq_false h0]; rfl)) (dput_go (i := 1) (p := nzP d) (k := x.1) (v := x.2) (x := .nw (I x.2)) rfl rfl rfl (e_tq (k := kk x.1) rfl) (key_tq _) hnd hlen), .tq (kk x.1), VI x.2, ?_⟩
      have : nzP (d ++ [x]) = stp (nzP d) x.1 x.2 := by
        rw [put_new hk2]
        unfold nzP
        rw [List.filter_append]
        simp [h0]
      rw [this]; rfl)
  subst er
  exact run_ret (seq_go (r' := E [] U U) (set_go (x := .nw (pO [])) rfl rfl (by simp [startE])) (seq_go hf rfl))
theorem drop_ok {o : O} {P : PP} (h : IsQ o P) (hn : (keysP P).Nodup) (hl : P.length < 100000) : M_without_noughts [o] = .ok (pO (nzP P)) := nB_ok h hn hl
theorem n0P : (keysP ([] : PP)).Nodup := List.nodup_nil
def mulT (l r : PK × Int) : PK × Int := ((l.1.1 + r.1.1, l.1.2 + r.1.2), l.2 * r.2)
def mulL (P Q : PP) : PP := P.flatMap fun l => Q.map (mulT l)
theorem mulL_snoc (P Q : PP) (x : PK × Int) : mulL (P ++ [x]) Q = mulL P Q ++ Q.map (mulT x) := by simp [mulL]
theorem mulL_len (P Q : PP) : (mulL P Q).length = P.length * Q.length := by
  induction P with
  | nil => simp [mulL]
  | cons x P ih =>
    show (Q.map (mulT x) ++ mulL P Q).length = _
    rw [List.length_append, List.length_map, ih, List.length_cons, Nat.add_mul, Nat.one_mul]; omega
def tB : FS := (sSeq (sSet 7 false (eTup (aCons (eOp gAddA (eIx (eVar 3) (eC (.int 0))) (eIx (eVar 5) (eC (.int 0)))) (aCons (eOp gAddA (eIx (eVar 3) (eC (.int 1))) (eIx (eVar 5) (eC (.int 1)))) aNil)))) (sDPutL 2 (eOp gAddA (eDGet2 2 (eVar 7) 0) (eOp gMulA (eVar 4) (eVar 6))) (eVar 7)))
section
variable {o1 o2 : O}
theorem tB_ok {f : PP} (hn : (keysP f).Nodup) (hl : f.length < 100000) (x y : PK × Int) (z : S) {bm bn : Nat} (h0 : 0 < bm) (h0' : 0 < bn) (hb : bm + bn ≤ 100000000) (bx : x.2.natAbs < 2 ^ bm) (by' : y.2.natAbs < 2 ^ bn) : tB [.vl false o1, .vl false o2, .vl true (pO f), .tq (kk x.1), VI x.2, .tq (kk y.1), VI y.2, z] = .nx [.vl false o1, .vl false o2, .vl true (pO (addP f (mulT x y))), .tq (kk x.1), VI x.2, .tq (kk y.1), VI y.2, .vl true (.fz (.tup [.int (x.1.1 + y.1.1), .int (x.1.2 + y.1.2)]))] := by
  let R : Env := [.vl false o1, .vl false o2, .vl true (pO f), .tq (kk x.1), VI x.2, .tq (kk y.1), VI y.2, .vl true (.fz (.tup [.int (x.1.1 + y.1.1), .int (x.1.2 + y.1.2)]))]
  have em : eOp gMulA (eVar 4) (eVar 6) R = .ok (.nw (I (x.2 * y.2))) := by
    rw [op_of (x := .nw (I x.2)) (y := .nw (I y.2)) rfl rfl]
    exact gMul_lt bm bn bx by' h0 h0' hb
  have eg : eDGet2 2 (eVar 7) 0 R = .ok (.nw (I (gv f (x.1.1 + y.1.1, x.1.2 + y.1.2)))) := dget_go (p := f) (k := (x.1.1 + y.1.1, x.1.2 + y.1.2)) (i := 2) (w := true) (o := pO f) rfl rfl (y := .nw (.fz (.tup [.int (x.1.1 + y.1.1), .int (x.1.2 + y.1.2)]))) rfl rfl
  exact seq_go (r' := R) rfl (dput_go (i := 2) (p := f) (k := (x.1.1 + y.1.1, x.1.2 + y.1.2)) (v := gv f (x.1.1 + y.1.1, x.1.2 + y.1.2) + x.2 * y.2) (e_add eg em) rfl rfl (y := .nw (.fz (.tup [.int (x.1.1 + y.1.1), .int (x.1.2 + y.1.2)]))) rfl rfl hn hl)
theorem tw_ok {i j : Nat} {P Q : PP} {oa ob : O} (hi : ∀ z2 z3 z4 z5 z6 z7, ([.vl false o1, .vl false o2, z2, z3, z4, z5, z6, z7] : Env)[i]? = some (.vl false oa)) (hj : ∀ z2 z3 z4 z5 z6 z7, ([.vl false o1, .vl false o2, z2, z3, z4, z5, z6, z7] : Env)[j]? = some (.vl false ob)) (ha : IsQ oa P) (hb : IsQ ob Q) (hl : ∀ xs : PP, (∀ x ∈ xs, x ∈ mulL P Q) → (xs.foldl addP []).length < 100000) {bm bn : Nat} (h0 : 0 < bm) (h0' : 0 < bn) (hbn : bm + bn ≤ 100000000) (bP : ∀ x ∈ P, x.2.natAbs < 2 ^ bm) (bQ : ∀ x ∈ Q, x.2.natAbs < 2 ^ bn) :
    ∃ z3 z4 z5 z6 z7, sForDI i 3 4 (sForDI j 5 6 tB) [.vl false o1, .vl false o2, .vl true (pO []), U, U, U, U, U] = .nx [.vl false o1, .vl false o2, .vl true (pO ((mulL P Q).foldl addP [])), z3, z4, z5, z6, z7] := by
  let E (f : PP) (z3 z4 z5 z6 z7 : S) : Env := [.vl false o1, .vl false o2, .vl true (pO f), z3, z4, z5, z6, z7]
  have n0 := n0P
  obtain ⟨r', hf, z3, z4, z5, z6, z7, er⟩ := fordi_go (i := i) (m := 3) (n := 4) (F := sForDI j 5 6 tB) (P := P) (r := E [] U U U U U) (w := false) (o := oa) (hi _ _ _ _ _ _) ha.dI (fun d r => ∃ z3 z4 z5 z6 z7, r = E ((mulL d Q).foldl addP []) z3 z4 z5 z6 z7) ⟨U, U, U, U, U, rfl⟩ (fun d x e r hp ⟨z3, z4, z5, z6, z7, er⟩ => by
    subst er
    refine ⟨by simp [E], by simp [E], ?_⟩
    have hx : x ∈ P := by rw [← hp]; simp
    obtain ⟨r2, hf2, y5, y6, y7, er2⟩ := fordi_go (i := j) (m := 5) (n := 6) (F := tB) (P := Q) (r := E ((mulL d Q).foldl addP []) (.tq (kk x.1)) (VI x.2) z5 z6 z7) (w := false) (o := ob) (hj _ _ _ _ _ _) hb.dI (fun d2 r => ∃ y5 y6 y7, r = E ((mulL d Q ++ d2.map (mulT x)).foldl addP []) (.tq (kk x.1)) (VI x.2) y5 y6 y7) ⟨z5, z6, z7, by simp⟩ (fun d2 y e2 r hp2 ⟨y5, y6, y7, er2⟩ => by
      subst er2
      refine ⟨by simp [E], by simp [E], ?_⟩
      have hy : y ∈ Q := by rw [← hp2]; simp
      have hlen : ((mulL d Q ++ d2.map (mulT x)).foldl addP []).length < 100000 := hl _ fun z hz => by
        rcases List.mem_append.mp hz with hz | hz
        · obtain ⟨u, hu, hv⟩ := List.mem_flatMap.mp hz
          exact List.mem_flatMap.mpr ⟨u, by rw [← hp]; exact List.mem_append.mpr (.inl hu), hv⟩
        · obtain ⟨u, hu, rfl⟩ := List.mem_map.mp hz
          exact List.mem_flatMap.mpr ⟨x, hx, List.mem_map.mpr ⟨u, by rw [← hp2]; exact List.mem_append.mpr (.inl hu), rfl⟩⟩
      have := tB_ok (o1 := o1) (o2 := o2) (fold_nodup (mulL d Q ++ d2.map (mulT x)) n0) hlen x y y7 h0 h0' hbn (bP x hx) (bQ y hy)
      refine ⟨_, this, .tq (kk y.1), VI y.2, .vl true (.fz (.tup [.int (x.1.1 + y.1.1), .int (x.1.2 + y.1.2)])), ?_⟩
      have e : (mulL d Q ++ (d2 ++ [y]).map (mulT x)).foldl addP [] = addP ((mulL d Q ++ d2.map (mulT x)).foldl addP []) (mulT x y) := by
        rw [List.map_append, ← List.append_assoc]
        exact List.foldl_append
      rw [e])
    subst er2
    refine ⟨_, hf2, .tq (kk x.1), VI x.2, y5, y6, y7, ?_⟩
    rw [mulL_snoc])
  subst er
  exact ⟨z3, z4, z5, z6, z7, hf⟩
end
def timesP (P Q : PP) : PP := nzP ((mulL P Q).foldl addP [])
theorem times_cl (P Q : PP) : Cl (timesP P Q) := Cl.nzP (fold_nodup _ n0P)
theorem times_gv (P Q : PP) (k : PK) : gv (timesP P Q) k = sk (mulL P Q) k := by
  unfold timesP
  rw [gv_nz (fold_nodup _ n0P), fold_gv]
  show 0 + _ = _
  omega
theorem times_okP {o1 o2 : O} {P Q : PP} (h1 : IsQ o1 P) (h2 : IsQ o2 Q) (hl : ∀ xs : PP, (∀ x ∈ xs, x ∈ mulL P Q) → (xs.foldl addP []).length < 100000) {bm bn : Nat} (h0 : 0 < bm) (h0' : 0 < bn) (hbn : bm + bn ≤ 100000000) (bP : ∀ x ∈ P, x.2.natAbs < 2 ^ bm) (bQ : ∀ x ∈ Q, x.2.natAbs < 2 ^ bn) : M_pair_times [o1, o2] = .ok (pO (timesP P Q)) := by
  obtain ⟨z3, z4, z5, z6, z7, hw⟩ := tw_ok (o1 := o1) (o2 := o2) (i := 0) (j := 1) (P := P) (Q := Q) (fun _ _ _ _ _ _ => rfl) (fun _ _ _ _ _ _ => rfl) h1 h2 hl h0 h0' hbn bP bQ
  have hlen : ((mulL P Q).foldl addP []).length < 100000 := hl _ fun z hz => hz
  show runF 8 B_pair_times _ = _
  unfold B_pair_times
  exact run_ret (seq_go (r' := [.vl false o1, .vl false o2, .vl true (pO []), U, U, U, U, U]) (set_go (x := .nw (pO [])) rfl rfl (by simp [startE])) (seq_go hw (ret_go (call1 (x := .vw (pO ((mulL P Q).foldl addP []))) rfl (drop_ok (.inl rfl) (fold_nodup _ n0P) hlen)))))
theorem keys_fold : ∀ (xs p : PP) (k : PK), k ∈ keysP (xs.foldl addP p) → k ∈ keysP p ∨ k ∈ keysP xs
  | [], p, k, h => .inl h
  | x :: xs, p, k, h => by
    rcases keys_fold xs (addP p x) k h with h1 | h1
    · unfold addP at h1
      rw [keys_put] at h1
      split at h1
      · exact .inl h1
      · rcases List.mem_append.mp h1 with h2 | h2
        · exact .inl h2
        · exact .inr (by rw [List.mem_singleton.mp h2]; exact List.mem_cons_self)
    · exact .inr (List.mem_cons_of_mem _ h1)
def boxL (a b : Nat) : List PK := (List.range (a + 1)).flatMap fun (i : Nat) => (List.range (b + 1)).map fun (j : Nat) => (((i : Nat) : Int), ((j : Nat) : Int))
theorem boxL_len (a b : Nat) : (boxL a b).length = (a + 1) * (b + 1) := by
  unfold boxL
  rw [List.length_flatMap]
  simp only [List.length_map, List.length_range]
  rw [List.map_const', List.sum_replicate_nat, List.length_range]
theorem mem_box {a b : Nat} {k : PK} (h : (0 ≤ k.1 ∧ k.1 ≤ a) ∧ 0 ≤ k.2 ∧ k.2 ≤ b) : k ∈ boxL a b :=
  List.mem_flatMap.mpr ⟨k.1.toNat, List.mem_range.mpr (by omega), List.mem_map.mpr ⟨k.2.toNat, List.mem_range.mpr (by omega), by
    obtain ⟨x, y⟩ := k
    simp only [Prod.mk.injEq]
    dsimp only at h
    omega⟩⟩
structure Bx (P : PP) (a b m : Nat) : Prop where
  c : Cl P
  k : ∀ x ∈ P, (0 ≤ x.1.1 ∧ x.1.1 ≤ a) ∧ 0 ≤ x.1.2 ∧ x.1.2 ≤ b
  v : ∀ x ∈ P, x.2.natAbs < 2 ^ m
theorem Bx.up {P : PP} {a b m a' b' m' : Nat} (h : Bx P a b m) (ha : a ≤ a') (hb : b ≤ b') (hm : m ≤ m') : Bx P a' b' m' :=
  ⟨h.c, fun x hx => by have := h.k x hx; omega, fun x hx => lt_up (h.v x hx) hm⟩
theorem box_len {P : PP} {a b : Nat} (n : (keysP P).Nodup) (h : ∀ x ∈ P, (0 ≤ x.1.1 ∧ x.1.1 ≤ a) ∧ 0 ≤ x.1.2 ∧ x.1.2 ≤ b) : P.length ≤ (a + 1) * (b + 1) := by
  have h1 := pk_len_le n (ys := boxL a b) fun k hk => by
    obtain ⟨x, hx, e⟩ := List.mem_map.mp hk
    rw [← e]; exact mem_box (h x hx)
  rw [boxL_len] at h1
  rw [show P.length = (keysP P).length from (List.length_map _).symm]; exact h1
theorem Bx.len {P : PP} {a b m : Nat} (h : Bx P a b m) : P.length ≤ (a + 1) * (b + 1) := box_len h.c.n h.k
theorem sum_abs : ∀ (xs : List Int) (B : Nat), (∀ x ∈ xs, x.natAbs ≤ B) → xs.sum.natAbs ≤ xs.length * B
  | [], B, _ => by simp
  | x :: xs, B, h => by
    have h1 := h x List.mem_cons_self
    have h2 := sum_abs xs B fun y hy => h y (List.mem_cons_of_mem _ hy)
    rw [List.sum_cons, List.length_cons, Nat.add_mul, Nat.one_mul]
    omega
theorem mul_keys {P Q : PP} {a b m a' b' m' : Nat} (h : Bx P a b m) (h' : Bx Q a' b' m') : ∀ x ∈ mulL P Q, ((0 ≤ x.1.1 ∧ x.1.1 ≤ (a + a' : Nat)) ∧ 0 ≤ x.1.2 ∧ x.1.2 ≤ (b + b' : Nat)) ∧ x.2.natAbs ≤ 2 ^ (m + m') := fun x hx => by
  obtain ⟨l, hl, h1⟩ := List.mem_flatMap.mp hx
  obtain ⟨r, hr, rfl⟩ := List.mem_map.mp h1
  have k1 := h.k l hl
  have k2 := h'.k r hr
  refine ⟨?_, ?_⟩
  · show ((0 ≤ l.1.1 + r.1.1 ∧ l.1.1 + r.1.1 ≤ _) ∧ 0 ≤ l.1.2 + r.1.2 ∧ l.1.2 + r.1.2 ≤ _)
    omega
  · exact Nat.le_of_lt (natAbs_mul_lt (h.v l hl) (h'.v r hr) (Nat.le_refl _))
theorem mem_gv {P : PP} (n : (keysP P).Nodup) {x : PK × Int} (hx : x ∈ P) : gv P x.1 = x.2 := by
  unfold gv
  rw [(gt_mem n).mpr hx]; rfl
theorem times_bx {P Q : PP} {a b m a' b' m' : Nat} (h : Bx P a b m) (h' : Bx Q a' b' m') (hb : (a + a' + 1) * (b + b' + 1) < 100000) : Bx (timesP P Q) (a + a') (b + b') (m + m' + 34) := by
  have hm := mul_keys h h'
  have hk : ∀ x ∈ timesP P Q, x.1 ∈ keysP (mulL P Q) := fun x hx => by
    have h1 : x ∈ (mulL P Q).foldl addP [] := (List.mem_filter.mp hx).1
    rcases keys_fold (mulL P Q) [] x.1 (List.mem_map.mpr ⟨x, h1, rfl⟩) with z | z
    · cases z
    · exact z
  refine ⟨times_cl P Q, fun x hx => ?_, fun x hx => ?_⟩
  · obtain ⟨y, hy, e⟩ := List.mem_map.mp (hk x hx)
    rw [← e]; exact (hm y hy).1
  · rw [← mem_gv (times_cl P Q).n hx, times_gv]
    have h1 := sum_abs ((mulL P Q).map fun y => if y.1 = x.1 then y.2 else 0) (2 ^ (m + m')) fun z hz => by
      obtain ⟨y, hy, rfl⟩ := List.mem_map.mp hz
      split
      · exact (hm y hy).2
      · simp
    rw [List.length_map, mulL_len] at h1
    have l1 := h.len
    have l2 := h'.len
    have q1 : (a + 1) * (b + 1) ≤ (a + a' + 1) * (b + b' + 1) := Nat.mul_le_mul (by omega) (by omega)
    have q2 : (a' + 1) * (b' + 1) ≤ (a + a' + 1) * (b + b' + 1) := Nat.mul_le_mul (by omega) (by omega)
    have l3 : P.length * Q.length ≤ 100000 * 100000 := Nat.mul_le_mul (by omega) (by omega)
    have l4 : P.length * Q.length * 2 ^ (m + m') < 2 ^ 34 * 2 ^ (m + m') := Nat.mul_lt_mul_of_pos_right (by omega) (Nat.two_pow_pos _)
    rw [← Nat.pow_add, Nat.add_comm 34] at l4
    exact Nat.lt_of_le_of_lt h1 l4
theorem times_ok {o1 o2 : O} {P Q : PP} {a b m a' b' m' : Nat} (h1 : IsQ o1 P) (h2 : IsQ o2 Q) (h : Bx P a b m) (h' : Bx Q a' b' m') (hb : (a + a' + 1) * (b + b' + 1) < 100000) (h0 : 0 < m) (h0' : 0 < m') (hm : m + m' ≤ 100000000) : M_pair_times [o1, o2] = .ok (pO (timesP P Q)) :=
  times_okP h1 h2 (fun xs hxs => by
    refine Nat.lt_of_le_of_lt (box_len (fold_nodup xs n0P) (a := a + a') (b := b + b') fun x hx => ?_) hb
    rcases keys_fold xs [] x.1 (List.mem_map.mpr ⟨x, hx, rfl⟩) with z | z
    · cases z
    · obtain ⟨y, hy, e⟩ := List.mem_map.mp z
      rw [← e]; exact (mul_keys h h' y (hxs y hy)).1) h0 h0' hm h.v h'.v
def oneP : PP := [((0, 0), 1)]
theorem one_bx : Bx oneP 0 0 1 := ⟨⟨by decide, by decide⟩, by decide, by decide⟩
def formP (f : T3) : PP := nzP [((1, 0), f.1), ((0, 1), f.2.1), ((0, 0), f.2.2)]
theorem form_cl (f : T3) : Cl (formP f) := Cl.nzP (by show ([((1, 0) : PK), (0, 1), (0, 0)]).Nodup; decide)
theorem form_bx {f : T3} {m : Nat} (h : f.1.natAbs < 2 ^ m ∧ f.2.1.natAbs < 2 ^ m ∧ f.2.2.natAbs < 2 ^ m) : Bx (formP f) 1 1 m := by
  have hm : ∀ x ∈ formP f, x = (((1, 0), f.1) : PK × Int) ∨ x = ((0, 1), f.2.1) ∨ x = ((0, 0), f.2.2) := fun x hx => by
    have := (List.mem_filter.mp hx).1
    simpa using this
  refine ⟨form_cl f, fun x hx => ?_, fun x hx => ?_⟩
  · rcases hm x hx with rfl | rfl | rfl <;> (dsimp only; omega)
  · rcases hm x hx with rfl | rfl | rfl
    · exact h.1
    · exact h.2.1
    · exact h.2.2
theorem dsp_cons {a b v : Int} {f g : FE} {ps : List (FE × FE)} {r : Env} {kds : List (List L2.Key × D)} (h : g r = .ok (.nw (.fz (.tup [.int a, .int b])))) (h2 : f r = .ok (.nw (I v))) (h3 : dspL ps r = some kds) : dspL ((g, f) :: ps) r = some ((kk (a, b), .int v) :: kds) := by
  simp only [dspL, h, h2, h3]; rfl
theorem dsp_go {ps : List (FE × FE)} {r : Env} {P : PP} (h : dspL ps r = some (P.map fun x => (kk x.1, D.int x.2))) (hn : (keysP P).Nodup) (hl : P.length ≤ 15) : eDspT ps r = .ok (.nw (pO P)) := by
  unfold eDspT
  rw [h]
  have e1 : (P.map fun x => (kk x.1, D.int x.2)).map (·.1) = pks P := by rw [List.map_map]; rfl
  have e2 : (P.map fun x => (kk x.1, D.int x.2)).map (·.2) = pvs P := by rw [List.map_map]; rfl
  dsimp only
  rw [e1, e2, if_pos ⟨pks_nodup hn, by rw [List.length_map]; exact hl⟩]
theorem pform_ok (f : T3) : M_pair_of_form [.fz (t3 f)] = .ok (pO (formP f)) := by
  show runF 1 B_pair_of_form _ = _
  unfold B_pair_of_form
  have n3 : (keysP [((1, 0), f.1), ((0, 1), f.2.1), ((0, 0), f.2.2)]).Nodup := by show ([((1, 0) : PK), (0, 1), (0, 0)]).Nodup; decide
  have e : eDspT (((eTup (aCons (eC (.int 1)) (aCons (eC (.int 0)) aNil))), (eIx (eVar 0) (eC (.int 0)))) :: (((eTup (aCons (eC (.int 0)) (aCons (eC (.int 1)) aNil))), (eIx (eVar 0) (eC (.int 1)))) :: (((eTup (aCons (eC (.int 0)) (aCons (eC (.int 0)) aNil))), (eIx (eVar 0) (eC (.int 2)))) :: []))) [.vl false (.fz (t3 f))] = .ok (.nw (pO [((1, 0), f.1), ((0, 1), f.2.1), ((0, 0), f.2.2)])) :=
    dsp_go (P := [((1, 0), f.1), ((0, 1), f.2.1), ((0, 0), f.2.2)]) (dsp_cons rfl (ix_t 0 (ds := [.int f.1, .int f.2.1, .int f.2.2]) rfl rfl) (dsp_cons rfl (ix_t 1 (ds := [.int f.1, .int f.2.1, .int f.2.2]) rfl rfl) (dsp_cons rfl (ix_t 2 (ds := [.int f.1, .int f.2.1, .int f.2.2]) rfl rfl) rfl))) n3 (by simp)
  exact run_ret (ret_go (call1 (x := .nw (pO [((1, 0), f.1), ((0, 1), f.2.1), ((0, 0), f.2.2)])) e (drop_ok (.inr rfl) n3 (by simp))))
def prj (w : Bool) (k : PK) : Int := if w then k.1 else k.2
def lexLe (w : Bool) (k K : PK) : Prop := prj w k < prj w K ∨ (prj w k = prj w K ∧ prj (!w) k ≤ prj (!w) K)
def Ld (w : Bool) (P : PP) (K : PK) : Prop := gv P K ≠ 0 ∧ ∀ x ∈ P, lexLe w x.1 K
def Dg (w z : Bool) (P : PP) (d : Int) : Prop := if z then P = [] else ∃ K, Ld w P K ∧ prj w K = d
theorem Dg.eq {w z : Bool} {P : PP} {d d' : Int} (h : Dg w z P d) (e : d = d') : Dg w z P d' := e ▸ h
theorem Dg.one (w : Bool) : Dg w false oneP 0 := by
  unfold Dg
  rw [if_neg (by simp)]
  exact ⟨(0, 0), ⟨by decide, fun x hx => by
    have : x = ((0, 0), 1) := by simpa [oneP] using hx
    rw [this]
    exact .inr ⟨rfl, Int.le_refl _⟩⟩, by cases w <;> rfl⟩
def cf (w : Bool) (f : T3) : Int := if w then f.1 else f.2.1
def zf (f : T3) : Bool := decide (f.1 = 0) && decide (f.2.1 = 0) && decide (f.2.2 = 0)
theorem gv_form (f : T3) (k : PK) : gv (formP f) k = if k = (1, 0) then f.1 else if k = (0, 1) then f.2.1 else if k = (0, 0) then f.2.2 else 0 := by
  unfold formP
  rw [gv_nz (by show ([((1, 0) : PK), (0, 1), (0, 0)]).Nodup; decide)]
  unfold gv gt
  by_cases h1 : k = (1, 0)
  · rw [if_pos h1, if_pos h1.symm]; rfl
  · rw [if_neg h1, if_neg (fun z => h1 z.symm)]
    unfold gt
    by_cases h2 : k = (0, 1)
    · rw [if_pos h2, if_pos h2.symm]; rfl
    · rw [if_neg h2, if_neg (fun z => h2 z.symm)]
      unfold gt
      by_cases h3 : k = (0, 0)
      · rw [if_pos h3, if_pos h3.symm]; rfl
      · rw [if_neg h3, if_neg (fun z => h3 z.symm)]; rfl
theorem form_mem {f : T3} {x : PK × Int} (h : x ∈ formP f) : (x.1 = (1, 0) ∧ f.1 ≠ 0) ∨ (x.1 = (0, 1) ∧ f.2.1 ≠ 0) ∨ (x.1 = (0, 0) ∧ f.2.2 ≠ 0) := by
  obtain ⟨h1, h2⟩ := List.mem_filter.mp h
  have h3 : x.2 ≠ 0 := by simpa using h2
  have : x = ((1, 0), f.1) ∨ x = ((0, 1), f.2.1) ∨ x = ((0, 0), f.2.2) := by simpa using h1
  rcases this with rfl | rfl | rfl
  · exact .inl ⟨rfl, h3⟩
  · exact .inr (.inl ⟨rfl, h3⟩)
  · exact .inr (.inr ⟨rfl, h3⟩)
theorem Dg.form (w : Bool) (f : T3) : Dg w (zf f) (formP f) (if cf w f = 0 then 0 else 1) := by
  obtain ⟨a, b, c⟩ := f
  unfold Dg
  by_cases hz : zf (a, b, c) = true
  · rw [if_pos hz]
    simp [zf] at hz
    obtain ⟨⟨rfl, rfl⟩, rfl⟩ := hz
    rfl
  · rw [if_neg hz]
    have top : ∀ K : PK, gv (formP (a, b, c)) K ≠ 0 → prj w K = (if cf w (a, b, c) = 0 then 0 else 1) → (∀ x ∈ formP (a, b, c), lexLe w x.1 K) → ∃ K, Ld w (formP (a, b, c)) K ∧ prj w K = (if cf w (a, b, c) = 0 then 0 else 1) := fun K h1 h2 h3 => ⟨K, ⟨h1, h3⟩, h2⟩
    cases w with
    | true =>
      by_cases ha : a = 0
      · by_cases hb : b = 0
        · have hc : c ≠ 0 := fun z => hz (by simp [zf, ha, hb, z])
          refine top (0, 0) (by rw [gv_form]; simpa using hc) (by simp [prj, cf, ha]) fun x hx => ?_
          rcases form_mem hx with ⟨e, q⟩ | ⟨e, q⟩ | ⟨e, q⟩
          · exact absurd ha q
          · exact absurd hb q
          · rw [e]; exact .inr ⟨rfl, Int.le_refl _⟩
        · refine top (0, 1) (by rw [gv_form]; simpa using hb) (by simp [prj, cf, ha]) fun x hx => ?_
          rcases form_mem hx with ⟨e, q⟩ | ⟨e, q⟩ | ⟨e, q⟩
          · exact absurd ha q
          · rw [e]; exact .inr ⟨rfl, Int.le_refl _⟩
          · rw [e]; exact .inr ⟨rfl, by decide⟩
      · refine top (1, 0) (by rw [gv_form]; simpa using ha) (by simp [prj, cf, ha]) fun x hx => ?_
        rcases form_mem hx with ⟨e, q⟩ | ⟨e, q⟩ | ⟨e, q⟩
        · rw [e]; exact .inr ⟨rfl, Int.le_refl _⟩
        · rw [e]; exact .inl (by decide)
        · rw [e]; exact .inl (by decide)
    | false =>
      by_cases hb : b = 0
      · by_cases ha : a = 0
        · have hc : c ≠ 0 := fun z => hz (by simp [zf, ha, hb, z])
          refine top (0, 0) (by rw [gv_form]; simpa using hc) (by simp [prj, cf, hb]) fun x hx => ?_
          rcases form_mem hx with ⟨e, q⟩ | ⟨e, q⟩ | ⟨e, q⟩
          · exact absurd ha q
          · exact absurd hb q
          · rw [e]; exact .inr ⟨rfl, Int.le_refl _⟩
        · refine top (1, 0) (by rw [gv_form]; simpa using ha) (by simp [prj, cf, hb]) fun x hx => ?_
          rcases form_mem hx with ⟨e, q⟩ | ⟨e, q⟩ | ⟨e, q⟩
          · rw [e]; exact .inr ⟨rfl, Int.le_refl _⟩
          · exact absurd hb q
          · rw [e]; exact .inr ⟨rfl, by decide⟩
      · refine top (0, 1) (by rw [gv_form]; simpa using hb) (by simp [prj, cf, hb]) fun x hx => ?_
        rcases form_mem hx with ⟨e, q⟩ | ⟨e, q⟩ | ⟨e, q⟩
        · rw [e]; exact .inl (by decide)
        · rw [e]; exact .inr ⟨rfl, Int.le_refl _⟩
        · rw [e]; exact .inl (by decide)
theorem for_rng2 {fs : Env → Res (List O)} {m : Nat} {F : FS} {r : Env} {a b : Int} (E : Nat → S → Env) {y0 : S} (he : r = E 0 y0) (h : fs r = .ok [I a, I b]) (ha : -(2 ^ 62) ≤ a ∧ a < 2 ^ 62) (hb : -(2 ^ 62) ≤ b ∧ b < 2 ^ 62) (hm : ∀ j y, m < (E j y).length) (hs : ∀ (j : Nat) (y : S), j < (b - a).toNat → ∃ y', F ((E j y).set m (VI (a + j))) = .nx (E (j + 1) y')) : ∃ y', sFor (iRng rng2 fs) (gN m) F r = .nx (E (b - a).toNat y') := by
  have e := rng2_go h ha.1 ha.2 hb.1 hb.2
  obtain ⟨r', e2, y, hr⟩ := forL_inv (fg := gN m) (F := F) (its := (List.range (b - a).toNat).map fun (k : Nat) => intR (a + (k : Nat))) (r := r) (fun i r => ∃ y : S, r = E i y) ⟨y0, he⟩ (fun i y r hy ⟨z, hr⟩ => by
    subst hr
    obtain ⟨hi, rfl⟩ : i < (b - a).toNat ∧ y = intR (a + (i : Int)) := by
      rw [List.getElem?_map] at hy
      cases hj : (List.range (b - a).toNat)[i]? with
      | none => rw [hj] at hy; cases hy
      | some j =>
        rw [hj] at hy
        obtain ⟨h1, h2⟩ := List.getElem?_eq_some_iff.mp hj
        simp at h1 h2
        subst h2
        exact ⟨by omega, (Option.some.inj hy).symm⟩
    obtain ⟨y', hy'⟩ := hs i z hi
    exact ⟨_, _, by simp [intR, hm], hy', y', rfl⟩)
  rw [List.length_map, List.length_range] at hr
  exact ⟨y, for_go e (by rw [e2, hr])⟩
theorem meth_ok {tab : List (PySem.Str × (List O → Res O))} {m : PySem.Str} {fo : FE} {fs : Env → Res (List O)} {r : Env} {x : R} {c : PySem.Str} {ns : List PySem.Str} {M : List O → Res O} {os : List O} {o : O} (hf : fo r = .ok x) (hc : clsO x.a = some (c, ns)) (hm : m ∉ ns) (ht : tab.lookup c = some M) (hs : fs r = .ok os) (hM : M (x.a :: os) = .ok o) :
    eMeth tab m fo fs r = .ok (.nw o) := by
  rw [eMeth, hf]
  dsimp only
  rw [hc]
  dsimp only
  rw [if_neg hm, ht]
  dsimp only
  rw [hs, res_ok, hM]; rfl
def clPt : Pt → PySem.Str × List PySem.Str
  | .ch _ _ => ("Choose", ["high", "lows"])
  | .wt _ => ("Weight", ["form"])
  | .pw _ => ("Power", ["fraction"])
  | .gr _ => ("Growth", ["fraction"])
theorem cls_pt (p : Pt) : clsO (.fz (ptE p)) = some (clPt p) := by cases p <;> rfl
theorem fld_lows {i : Nat} {r : Env} {h l : T3} (hi : r[i]? = some (.vl false (.fz (ptE (.ch h l))))) : eFld TF_lows "lows" (eVar i) r = .ok (.nw (.fz (.lst [t3 l, t3 (dif3 h l)]))) := by
  have e : eVar i r = .ok (.nw (.fz (ptE (.ch h l)))) := by unfold eVar; rw [hi]; rfl
  rw [eFld, e, res_ok]
  show fldR TF_lows "lows" (.nw (.fz (.obj "Choose" ["high", "lows"] [t3 h, .lst [t3 l, t3 (dif3 h l)]]))) = _
  simp [fldR, TF_lows, show (PySem.Str.ofString "lows" == PySem.Str.ofString "high") = false from by decide, List.lookup]
theorem fld_high {i : Nat} {r : Env} {h l : T3} (hi : r[i]? = some (.vl false (.fz (ptE (.ch h l))))) : eFld TF_high "high" (eVar i) r = .ok (.nw (.fz (t3 h))) := by
  have e : eVar i r = .ok (.nw (.fz (ptE (.ch h l)))) := by unfold eVar; rw [hi]; rfl
  rw [eFld, e, res_ok]
  show fldR TF_high "high" (.nw (.fz (.obj "Choose" ["high", "lows"] [t3 h, .lst [t3 l, t3 (dif3 h l)]]))) = _
  simp [fldR, TF_high, List.lookup]
theorem fld_form {i : Nat} {r : Env} {f : T3} (hi : r[i]? = some (.vl false (.fz (ptE (.wt f))))) : eFld TF_form "form" (eVar i) r = .ok (.nw (.fz (t3 f))) := by
  have e : eVar i r = .ok (.nw (.fz (ptE (.wt f)))) := by unfold eVar; rw [hi]; rfl
  rw [eFld, e, res_ok]
  show fldR TF_form "form" (.nw (.fz (.obj "Weight" ["form"] [t3 f]))) = _
  simp [fldR, TF_form, List.lookup]
theorem fld_frac {i : Nat} {r : Env} {f : Int × Int} {p : Pt} (hp : p = .pw f ∨ p = .gr f) (hi : r[i]? = some (.vl false (.fz (ptE p)))) : eFld TF_fraction "fraction" (eVar i) r = .ok (.nw (.fz (fD f))) := by
  have e : eVar i r = .ok (.nw (.fz (ptE p))) := by unfold eVar; rw [hi]; rfl
  rw [eFld, e, res_ok]
  rcases hp with rfl | rfl
  · show fldR TF_fraction "fraction" (.nw (.fz (.obj "Power" ["fraction"] [fD f]))) = _
    simp [fldR, TF_fraction, List.lookup]
  · show fldR TF_fraction "fraction" (.nw (.fz (.obj "Growth" ["fraction"] [fD f]))) = _
    simp [fldR, TF_fraction, List.lookup]
def lt3 (m : Nat) (f : T3) : Prop := f.1.natAbs < 2 ^ m ∧ f.2.1.natAbs < 2 ^ m ∧ f.2.2.natAbs < 2 ^ m
def risP (f : T3) (lo : Int) : Nat → PP
  | 0 => oneP
  | n + 1 => timesP (risP f lo n) (formP (f.1, f.2.1, f.2.2 + (lo + n)))
def risR (f : T3) (lo hi : Int) : PP := risP f lo (hi + 1 - lo).toNat
theorem ris_form {f : T3} {lo : Int} (hf : lt3 9 f) (hlo : -100 ≤ lo ∧ lo ≤ 100) {n : Nat} (hn : n ≤ 100) : Bx (formP (f.1, f.2.1, f.2.2 + (lo + n))) 1 1 10 := form_bx (by
  unfold lt3 at hf
  dsimp only
  omega)
theorem ris_bx {f : T3} {lo : Int} (hf : lt3 9 f) (hlo : -100 ≤ lo ∧ lo ≤ 100) : ∀ n : Nat, n ≤ 100 → Bx (risP f lo n) n n (1 + 44 * n)
  | 0, _ => one_bx
  | n + 1, h => by
    have h1 := ris_bx hf hlo n (by omega)
    have h2 := ris_form hf hlo (n := n) (by omega)
    have h3 := times_bx h1 h2 (by
      have : (n + 1 + 1) * (n + 1 + 1) ≤ 101 * 101 := Nat.mul_le_mul (by omega) (by omega)
      omega)
    exact h3.up (Nat.le_refl _) (Nat.le_refl _) (by omega)
theorem num_ev {f : FE} {r : Env} {v : Int} (h : f r = .ok (.nw (I v))) : eDspT (((eTup (aCons (eC (.int 0)) (aCons (eC (.int 0)) aNil))), f) :: []) r = .ok (.nw (pO [((0, 0), v)])) :=
  dsp_go (P := [((0, 0), v)]) (dsp_cons rfl h rfl) (by show ([((0, 0) : PK)]).Nodup; decide) (by simp)
theorem one_ev (r : Env) : eDspT (((eTup (aCons (eC (.int 0)) (aCons (eC (.int 0)) aNil))), (eC (.int 1))) :: []) r = .ok (.nw (pO oneP)) := num_ev (eC_ev _)
theorem rising_ok {f : T3} {lo hi : Int} (hf : lt3 9 f) (hlo : -100 ≤ lo ∧ lo ≤ 100) (hhi : -1000 ≤ hi ∧ hi ≤ 1000) (hn : hi + 1 - lo ≤ 100) : M_rising [.fz (t3 f), I lo, I hi] = .ok (.fz (pD (risR f lo hi))) := by
  let E (j : Nat) (y : S) : Env := [.vl false (.fz (t3 f)), .vl false (I lo), .vl false (I hi), .vl true (.fz (pD (risP f lo j))), y]
  obtain ⟨y', h1⟩ := for_rng2 (fs := aCons (eVar 1) (aCons (eOp gAddA (eVar 2) (eC (.int 1))) aNil)) (m := 4) (F := sSet 3 false (eCall M_pair_times (aCons (eVar 3) (aCons (eCall M_pair_of_form (aCons (eTup (aCons (eIx (eVar 0) (eC (.int 0))) (aCons (eIx (eVar 0) (eC (.int 1))) (aCons (eOp gAddA (eIx (eVar 0) (eC (.int 2))) (eVar 4)) aNil)))) aNil)) aNil)))) (r := E 0 .un) (a := lo) (b := hi + 1) E rfl
    (by
      have := e_add (f := eVar 2) (g := eC (.int 1)) (r := E 0 .un) (a := hi) (b := 1) rfl (eC_ev _)
      simp only [aCons_ev, this, res_ok, aNil_ev]; rfl) (by omega) (by omega) (fun j y => by simp [E]) (fun j y hj => by
      refine ⟨VI (lo + j), ?_⟩
      have e0 : eIx (eVar 0) (eC (.int 0)) ((E j y).set 4 (VI (lo + j))) = .ok (.nw (I f.1)) := ix_t 0 (ds := [.int f.1, .int f.2.1, .int f.2.2]) rfl rfl
      have e1 : eIx (eVar 0) (eC (.int 1)) ((E j y).set 4 (VI (lo + j))) = .ok (.nw (I f.2.1)) := ix_t 1 (ds := [.int f.1, .int f.2.1, .int f.2.2]) rfl rfl
      have e2 : eIx (eVar 0) (eC (.int 2)) ((E j y).set 4 (VI (lo + j))) = .ok (.nw (I f.2.2)) := ix_t 2 (ds := [.int f.1, .int f.2.1, .int f.2.2]) rfl rfl
      have b1 := ris_bx hf hlo j (by omega)
      have b2 := ris_form hf hlo (n := j) (by omega)
      refine set_go (x := .nw (pO (risP f lo (j + 1)))) (call2 (x := .nw (.fz (pD (risP f lo j)))) (y := .nw (pO (formP (f.1, f.2.1, f.2.2 + (lo + j))))) rfl (call1 (e_t3 e0 e1 (e_add e2 (b := lo + j) rfl)) (pform_ok _)) (times_ok (.inr rfl) (.inr rfl) b1 b2 ?_ (by omega) (by omega) (by omega))) rfl (by simp [E])
      have : (j + 1 + 1) * (j + 1 + 1) ≤ 102 * 102 := Nat.mul_le_mul (by omega) (by omega)
      omega)
  show runF 5 B_rising _ = _
  unfold B_rising
  exact run_ret (seq_go (r' := E 0 .un) (set_go (x := .nw (pO oneP)) (one_ev _) rfl (by simp [startE])) (seq_go h1 rfl))
theorem risR_bx {f : T3} {lo hi : Int} (hf : lt3 9 f) (hlo : -100 ≤ lo ∧ lo ≤ 100) {n : Nat} (hn : hi + 1 - lo ≤ n) (h100 : n ≤ 100) : Bx (risR f lo hi) n n (1 + 44 * n) :=
  (ris_bx hf hlo (hi + 1 - lo).toNat (by omega)).up (by omega) (by omega) (by omega)
def mx0 (x : Int) : Int := if x > 0 then x else 0
def rl (far : Int) (f : T3) : T3 := (f.1, f.2.1, f.2.2 + far * mx0 f.1)
def riS (f : T3) (i far : Int) : PP := risR f (i * f.1 + 1) (mx0 (far * f.1))
def stpC (h l : T3) (i far : Int) : PP := timesP (timesP (risR h 1 (i * h.1)) (riS l i far)) (riS (dif3 h l) i far)
def upR (f : T3) (far : Int) : PP := risR (rl far f) (f.2.1 + 1) 0
def upC (h l : T3) (far : Int) : PP := timesP (timesP (risR h 1 h.2.1) (upR l far)) (upR (dif3 h l) far)
def dnR (f : T3) (far : Int) : PP := risR (rl far f) 1 f.2.1
def dnC (h l : T3) (far : Int) : PP := timesP (timesP oneP (dnR l far)) (dnR (dif3 h l) far)
def stpPt : Pt → Int → Int → PP
  | .ch h l, i, far => stpC h l i far
  | .wt f, i, _ => formP (f.1, f.2.1, f.2.2 + i * f.1)
  | .pw _, _, _ => oneP
  | .gr f, i, far => [((0, 0), f.1 ^ i.toNat * f.2 ^ (far - i).toNat)]
def upPt : Pt → Int → PP
  | .ch h l, far => upC h l far
  | .wt _, _ => oneP
  | .pw f, _ => [((0, 0), f.1)]
  | .gr _, _ => oneP
def dnPt : Pt → Int → PP
  | .ch h l, far => dnC h l far
  | .wt _, _ => oneP
  | .pw f, _ => [((0, 0), f.2)]
  | .gr _, _ => oneP
def okLo (f : T3) : Prop := -3 ≤ f.1 ∧ f.1 ≤ 6 ∧ -3 ≤ f.2.1 ∧ f.2.1 ≤ 6 ∧ -9 ≤ f.2.2 ∧ f.2.2 ≤ 18
theorem okCh.lo {h l : T3} (hk : okCh h l) : okLo l ∧ okLo (dif3 h l) ∧ okLo h := by
  unfold okCh at hk
  unfold okLo dif3
  dsimp only
  omega
theorem mul3 {i a : Int} (hi : 0 ≤ i ∧ i ≤ 2) : i * a = 0 ∨ i * a = a ∨ i * a = 2 * a := by
  have : i = 0 ∨ i = 1 ∨ i = 2 := by omega
  rcases this with h | h | h <;> subst h <;> omega
theorem okLo.lt {f : T3} (h : okLo f) : lt3 9 f := by
  unfold okLo at h
  unfold lt3
  omega
theorem mx0_b {a : Int} (h : a ≤ 6) : 0 ≤ mx0 a ∧ mx0 a ≤ 6 := by
  unfold mx0; split <;> omega
theorem okLo.rlt {f : T3} (h : okLo f) {far : Int} (hf : 0 ≤ far ∧ far ≤ 2) : lt3 9 (rl far f) := by
  unfold okLo at h
  have h1 := mx0_b (a := f.1) (by omega)
  have h2 := mul3 (a := mx0 f.1) hf
  unfold lt3 rl
  dsimp only
  omega
theorem riS_n {f : T3} (h : okLo f) {i far : Int} (hi : 0 ≤ i ∧ i ≤ far) (hf : far ≤ 2) : (-6 ≤ i * f.1 + 1 ∧ i * f.1 + 1 ≤ 13) ∧ (0 ≤ mx0 (far * f.1) ∧ mx0 (far * f.1) ≤ 12) ∧ mx0 (far * f.1) + 1 - (i * f.1 + 1) = far * mx0 f.1 - i * f.1 ∧ far * mx0 f.1 - i * f.1 ≤ 12 ∧ 0 ≤ far * mx0 f.1 - i * f.1 := by
  unfold okLo at h
  have h1 := mul3 (i := i) (a := f.1) (by omega)
  have e : far = 0 ∨ far = 1 ∨ far = 2 := by omega
  have e2 : i = 0 ∨ i = 1 ∨ i = 2 := by omega
  unfold mx0
  rcases e with e | e | e <;> rcases e2 with e2 | e2 | e2 <;> subst e e2 <;> (try omega) <;> split <;> split <;> omega
theorem riS_bx {f : T3} (h : okLo f) {i far : Int} (hi : 0 ≤ i ∧ i ≤ far) (hf : far ≤ 2) : Bx (riS f i far) 12 12 529 := by
  obtain ⟨a1, a2, a3, a4, a5⟩ := riS_n h hi hf
  exact risR_bx h.lt (by omega) (n := 12) (by omega) (by omega)
theorem hi_bx {h l : T3} (hk : okCh h l) {i : Int} (hi : 0 ≤ i ∧ i ≤ 2) : (0 ≤ i * h.1 ∧ i * h.1 ≤ 6) ∧ Bx (risR h 1 (i * h.1)) 6 6 265 := by
  have h3 := hk.lo.2.2.lt
  unfold okCh at hk
  have h1 := mul3 (i := i) (a := h.1) (by omega)
  exact ⟨by omega, risR_bx h3 (by omega) (n := 6) (by omega) (by omega)⟩
theorem stpC_bx {h l : T3} (hk : okCh h l) {i far : Int} (hi : 0 ≤ i ∧ i ≤ far) (hf : far ≤ 2) : Bx (timesP (risR h 1 (i * h.1)) (riS l i far)) 18 18 828 ∧ Bx (stpC h l i far) 30 30 1400 := by
  have b1 := (hi_bx hk (i := i) (by omega)).2
  have b2 := times_bx b1 (riS_bx hk.lo.1 hi hf) (by decide)
  exact ⟨b2, (times_bx b2 (riS_bx hk.lo.2.1 hi hf) (by decide)).up (by omega) (by omega) (by omega)⟩
theorem upR_bx {f : T3} (h : okLo f) {far : Int} (hf : 0 ≤ far ∧ far ≤ 2) : Bx (upR f far) 12 12 529 := by
  have h1 := h.rlt hf
  unfold okLo at h
  exact risR_bx h1 (by omega) (n := 12) (by omega) (by omega)
theorem dnR_bx {f : T3} (h : okLo f) {far : Int} (hf : 0 ≤ far ∧ far ≤ 2) : Bx (dnR f far) 12 12 529 := by
  have h1 := h.rlt hf
  unfold okLo at h
  exact risR_bx h1 (by omega) (n := 12) (by omega) (by omega)
theorem upC_bx {h l : T3} (hk : okCh h l) {far : Int} (hf : 0 ≤ far ∧ far ≤ 2) : Bx (risR h 1 h.2.1) 6 6 265 ∧ Bx (timesP (risR h 1 h.2.1) (upR l far)) 18 18 828 ∧ Bx (upC h l far) 30 30 1400 := by
  have h3 := hk.lo.2.2.lt
  have b1 : Bx (risR h 1 h.2.1) 6 6 265 := risR_bx h3 (by omega) (n := 6) (by unfold okCh at hk; omega) (by omega)
  have b2 := times_bx b1 (upR_bx hk.lo.1 hf) (by decide)
  exact ⟨b1, b2, (times_bx b2 (upR_bx hk.lo.2.1 hf) (by decide)).up (by omega) (by omega) (by omega)⟩
theorem dnC_bx {h l : T3} (hk : okCh h l) {far : Int} (hf : 0 ≤ far ∧ far ≤ 2) : Bx (timesP oneP (dnR l far)) 12 12 564 ∧ Bx (dnC h l far) 30 30 1400 := by
  have b2 := times_bx one_bx (dnR_bx hk.lo.1 hf) (by decide)
  exact ⟨b2.up (by omega) (by omega) (by omega), (times_bx b2 (dnR_bx hk.lo.2.1 hf) (by decide)).up (by omega) (by omega) (by omega)⟩
theorem max0_ev {f : FE} {r : Env} {x : Int} (h : f r = .ok (.nw (I x))) : eB gMax2 (aCons (eC (.int 0)) (aCons f aNil)) r = .ok (.nw (I (mx0 x))) := by
  simp only [eB_ev, aCons_ev, eC_ev, h, res_ok, aNil_ev, ra_nw, er_fz]
  exact gMax_ev 0 x
theorem cstep_ok {h l : T3} (hk : okCh h l) {i far : Int} (hi : 0 ≤ i ∧ i ≤ far) (hf : far ≤ 2) : M_Choose_step [.fz (ptE (.ch h l)), I i, I far] = .ok (.fz (pD (stpC h l i far))) := by
  obtain ⟨b1, b2⟩ := hi_bx hk (i := i) (by omega)
  obtain ⟨b3, b4⟩ := stpC_bx hk hi hf
  let A : S := .vl false (.fz (ptE (.ch h l)))
  let E (P : S) (y : S) : Env := [A, .vl false (I i), .vl false (I far), P, y]
  let V (P : PP) : S := .vl true (.fz (pD P))
  have ih : ∀ y z, eIx (eFld TF_high "high" (eVar 0)) (eC (.int 0)) (E y z) = .ok (.nw (I h.1)) := fun y z => ix_t 0 (ds := [.int h.1, .int h.2.1, .int h.2.2]) (fld_high (h := h) (l := l) rfl) rfl
  have s1 : sSet 3 false (eCall M_rising (aCons (eFld TF_high "high" (eVar 0)) (aCons (eC (.int 1)) (aCons (eOp gMulA (eVar 1) (eIx (eFld TF_high "high" (eVar 0)) (eC (.int 0)))) aNil)))) (E .un .un) = .nx (E (V (risR h 1 (i * h.1))) .un) :=
    set_go (x := .nw (.fz (pD (risR h 1 (i * h.1))))) (call3 (x := .nw (.fz (t3 h))) (y := .nw (I 1)) (z := .nw (I (i * h.1))) (fld_high (h := h) (l := l) rfl) (eC_ev _) (e_mul (a := i) 10 10 rfl (ih _ _) (by omega) (by unfold okCh at hk; omega)) (rising_ok hk.lo.2.2.lt (by omega) (by omega) (by omega))) rfl (by simp [E])
  have st : ∀ (P : PP) (a m : Nat) (f : T3), okLo f → Bx P a a m → a ≤ 18 → m ≤ 828 → 0 < m → sSet 3 false (eCall M_pair_times (aCons (eVar 3) (aCons (eCall M_rising (aCons (eVar 4) (aCons (eOp gAddA (eOp gMulA (eVar 1) (eIx (eVar 4) (eC (.int 0)))) (eC (.int 1))) (aCons (eB gMax2 (aCons (eC (.int 0)) (aCons (eOp gMulA (eVar 2) (eIx (eVar 4) (eC (.int 0)))) aNil))) aNil)))) aNil))) (E (V P) (.vl true (.fz (t3 f)))) = .nx (E (V (timesP P (riS f i far))) (.vl true (.fz (t3 f)))) := fun P a m f hl bx ha hm h0 => by
    obtain ⟨a1, a2, a3, a4, a5⟩ := riS_n hl hi hf
    have i0 : eIx (eVar 4) (eC (.int 0)) (E (V P) (.vl true (.fz (t3 f)))) = .ok (.nw (I f.1)) := ix_t 0 (ds := [.int f.1, .int f.2.1, .int f.2.2]) rfl rfl
    have f10 : f.1.natAbs < 2 ^ 10 := by unfold okLo at hl; omega
    refine set_go (x := .nw (pO (timesP P (riS f i far)))) (call2 (x := .nw (.fz (pD P))) (y := .nw (.fz (pD (riS f i far)))) rfl (call3 (x := .nw (.fz (t3 f))) (y := .nw (I (i * f.1 + 1))) (z := .nw (I (mx0 (far * f.1)))) rfl (e_add (e_mul (a := i) 10 10 rfl i0 (by omega) f10) (eC_ev _)) (max0_ev (e_mul (a := far) 10 10 rfl i0 (by omega) f10)) (rising_ok hl.lt (by omega) (by omega) (by omega))) (times_ok (.inr rfl) (.inr rfl) bx (riS_bx hl hi hf) ?_ h0 (by omega) (by omega))) rfl (by simp [E])
    have : (a + 12 + 1) * (a + 12 + 1) ≤ 31 * 31 := Nat.mul_le_mul (by omega) (by omega)
    omega
  show runF 5 B_Choose_step _ = _
  unfold B_Choose_step
  refine run_ret (seq_go (r' := E (V (risR h 1 (i * h.1))) .un) s1 (seq_go (r' := E (V (stpC h l i far)) (.vl true (.fz (t3 (dif3 h l))))) (for_go (iLst_ds (fld_lows (h := h) (l := l) rfl)) (forL_two (r1 := E (V (risR h 1 (i * h.1))) (.vl true (.fz (t3 l)))) (r2 := E (V (timesP (risR h 1 (i * h.1)) (riS l i far))) (.vl true (.fz (t3 l)))) (r3 := E (V (timesP (risR h 1 (i * h.1)) (riS l i far))) (.vl true (.fz (t3 (dif3 h l))))) rfl (st _ 6 265 l hk.lo.1 b2 (by omega) (by omega) (by omega)) rfl (st _ 18 828 (dif3 h l) hk.lo.2.1 b3 (by omega) (by omega) (by omega)))) rfl))
theorem rlows_ok {h l : T3} (hk : okCh h l) {far : Int} (hf : 0 ≤ far ∧ far ≤ 2) : M_Choose_raised_lows [.fz (ptE (.ch h l)), I far] = .ok (.ls [.fz (t3 (rl far l)), .fz (t3 (rl far (dif3 h l)))]) := by
  show runF 3 B_Choose_raised_lows _ = _
  unfold B_Choose_raised_lows
  refine run_ret (ret_go ?_)
  show _ = Res.ok (DL.R.nw (.ls ([l, dif3 h l].map fun f => .fz (t3 (rl far f)))))
  refine lcD_map (g := fun f : T3 => .nw (.fz (t3 f))) ?_ (by simp [startE]) (fun f hm => ⟨[.vl false (.fz (ptE (.ch h l))), .vl false (I far), .vl true (.fz (t3 f))], by simp [wipeE, startE], ?_⟩) (by simp)
  · exact iLst_ds (fld_lows (h := h) (l := l) rfl)
  · have e0 : eIx (eVar 2) (eC (.int 0)) [.vl false (.fz (ptE (.ch h l))), .vl false (I far), .vl true (.fz (t3 f))] = .ok (.nw (I f.1)) := ix_t 0 (ds := [.int f.1, .int f.2.1, .int f.2.2]) rfl rfl
    have hl : okLo f := by
      simp only [List.mem_cons, List.not_mem_nil, or_false] at hm
      rcases hm with rfl | rfl
      · exact hk.lo.1
      · exact hk.lo.2.1
    have hb := mx0_b (a := f.1) (by unfold okLo at hl; omega)
    exact e_t3 e0 (ix_t 1 (f := eVar 2) (ds := [.int f.1, .int f.2.1, .int f.2.2]) rfl rfl) (e_add (ix_t 2 (f := eVar 2) (ds := [.int f.1, .int f.2.1, .int f.2.2]) rfl rfl) (e_mul (a := far) 10 10 rfl (max0_ev e0) (by omega) (by omega)))
theorem rl_its {h l : T3} (hk : okCh h l) {far : Int} (hf : 0 ≤ far ∧ far ≤ 2) {i : Nat} {r : Env} (h0 : r[0]? = some (.vl false (.fz (ptE (.ch h l))))) (h1 : eVar i r = .ok (.nw (I far))) : iLst (eMeth [("Choose", M_Choose_raised_lows)] "raised_lows" (eVar 0) (aCons (eVar i) aNil)) r = .ok [.nw (.fz (t3 (rl far l))), .nw (.fz (t3 (rl far (dif3 h l))))] := by
  have e0 : eVar 0 r = .ok (.nw (.fz (ptE (.ch h l)))) := by unfold eVar; rw [h0]; rfl
  have em := meth_ok (tab := [("Choose", M_Choose_raised_lows)]) (m := "raised_lows") (fs := aCons (eVar i) aNil) e0 (cls_pt (.ch h l)) (by decide) rfl (by simp only [aCons_ev, h1, res_ok, aNil_ev]; rfl) (rlows_ok hk hf)
  rw [iLst, em]; rfl
theorem cup_ok {h l : T3} (hk : okCh h l) {far : Int} (hf : 0 ≤ far ∧ far ≤ 2) : M_Choose_up [.fz (ptE (.ch h l)), I far] = .ok (.fz (pD (upC h l far))) := by
  obtain ⟨b1, b3, b4⟩ := upC_bx hk hf
  let A : S := .vl false (.fz (ptE (.ch h l)))
  let E (P : S) (y : S) : Env := [A, .vl false (I far), P, y]
  let V (P : PP) : S := .vl true (.fz (pD P))
  have s1 : sSet 2 false (eCall M_rising (aCons (eFld TF_high "high" (eVar 0)) (aCons (eC (.int 1)) (aCons (eIx (eFld TF_high "high" (eVar 0)) (eC (.int 1))) aNil)))) (E .un .un) = .nx (E (V (risR h 1 h.2.1)) .un) :=
    set_go (x := .nw (.fz (pD (risR h 1 h.2.1)))) (call3 (x := .nw (.fz (t3 h))) (y := .nw (I 1)) (z := .nw (I h.2.1)) (fld_high (h := h) (l := l) rfl) (eC_ev _) (ix_t 1 (ds := [.int h.1, .int h.2.1, .int h.2.2]) (fld_high (h := h) (l := l) rfl) rfl) (rising_ok hk.lo.2.2.lt (by omega) (by unfold okCh at hk; omega) (by unfold okCh at hk; omega))) rfl (by simp [E])
  have st : ∀ (P : PP) (a m : Nat) (f : T3), okLo f → Bx P a a m → a ≤ 18 → m ≤ 828 → 0 < m → sSet 2 false (eCall M_pair_times (aCons (eVar 2) (aCons (eCall M_rising (aCons (eVar 3) (aCons (eOp gAddA (eIx (eVar 3) (eC (.int 1))) (eC (.int 1))) (aCons (eC (.int 0)) aNil)))) aNil))) (E (V P) (.vl true (.fz (t3 (rl far f))))) = .nx (E (V (timesP P (upR f far))) (.vl true (.fz (t3 (rl far f))))) := fun P a m f hl bx ha hm h0 => by
    have i1 : eIx (eVar 3) (eC (.int 1)) (E (V P) (.vl true (.fz (t3 (rl far f))))) = .ok (.nw (I f.2.1)) := ix_t 1 (ds := [.int f.1, .int f.2.1, .int (rl far f).2.2]) rfl rfl
    have hl' := hl
    unfold okLo at hl'
    refine set_go (x := .nw (pO (timesP P (upR f far)))) (call2 (x := .nw (.fz (pD P))) (y := .nw (.fz (pD (upR f far)))) rfl (call3 (x := .nw (.fz (t3 (rl far f)))) (y := .nw (I (f.2.1 + 1))) (z := .nw (I 0)) rfl (e_add i1 (eC_ev _)) (eC_ev _) (rising_ok (hl.rlt hf) (by omega) (by omega) (by omega))) (times_ok (.inr rfl) (.inr rfl) bx (upR_bx hl hf) ?_ h0 (by omega) (by omega))) rfl (by simp [E])
    have : (a + 12 + 1) * (a + 12 + 1) ≤ 31 * 31 := Nat.mul_le_mul (by omega) (by omega)
    omega
  show runF 4 B_Choose_up _ = _
  unfold B_Choose_up
  exact run_ret (seq_go (r' := E (V (risR h 1 h.2.1)) .un) s1 (seq_go (r' := E (V (upC h l far)) (.vl true (.fz (t3 (rl far (dif3 h l)))))) (for_go (rl_its hk hf rfl rfl) (forL_two (r1 := E (V (risR h 1 h.2.1)) (.vl true (.fz (t3 (rl far l))))) (r2 := E (V (timesP (risR h 1 h.2.1) (upR l far))) (.vl true (.fz (t3 (rl far l))))) (r3 := E (V (timesP (risR h 1 h.2.1) (upR l far))) (.vl true (.fz (t3 (rl far (dif3 h l)))))) rfl (st _ 6 265 l hk.lo.1 b1 (by omega) (by omega) (by omega)) rfl (st _ 18 828 (dif3 h l) hk.lo.2.1 b3 (by omega) (by omega) (by omega)))) rfl))
theorem cdown_ok {h l : T3} (hk : okCh h l) {far : Int} (hf : 0 ≤ far ∧ far ≤ 2) : M_Choose_down [.fz (ptE (.ch h l)), I far] = .ok (.fz (pD (dnC h l far))) := by
  obtain ⟨b3, b4⟩ := dnC_bx hk hf
  let A : S := .vl false (.fz (ptE (.ch h l)))
  let E (P : S) (y : S) : Env := [A, .vl false (I far), P, y]
  let V (P : PP) : S := .vl true (.fz (pD P))
  have st : ∀ (P : PP) (a m : Nat) (f : T3), okLo f → Bx P a a m → a ≤ 18 → m ≤ 828 → 0 < m → sSet 2 false (eCall M_pair_times (aCons (eVar 2) (aCons (eCall M_rising (aCons (eVar 3) (aCons (eC (.int 1)) (aCons (eIx (eVar 3) (eC (.int 1))) aNil)))) aNil))) (E (V P) (.vl true (.fz (t3 (rl far f))))) = .nx (E (V (timesP P (dnR f far))) (.vl true (.fz (t3 (rl far f))))) := fun P a m f hl bx ha hm h0 => by
    have i1 : eIx (eVar 3) (eC (.int 1)) (E (V P) (.vl true (.fz (t3 (rl far f))))) = .ok (.nw (I f.2.1)) := ix_t 1 (ds := [.int f.1, .int f.2.1, .int (rl far f).2.2]) rfl rfl
    have hl' := hl
    unfold okLo at hl'
    refine set_go (x := .nw (pO (timesP P (dnR f far)))) (call2 (x := .nw (.fz (pD P))) (y := .nw (.fz (pD (dnR f far)))) rfl (call3 (x := .nw (.fz (t3 (rl far f)))) (y := .nw (I 1)) (z := .nw (I f.2.1)) rfl (eC_ev _) i1 (rising_ok (hl.rlt hf) (by omega) (by omega) (by omega))) (times_ok (.inr rfl) (.inr rfl) bx (dnR_bx hl hf) ?_ h0 (by omega) (by omega))) rfl (by simp [E])
    have : (a + 12 + 1) * (a + 12 + 1) ≤ 31 * 31 := Nat.mul_le_mul (by omega) (by omega)
    omega
  show runF 4 B_Choose_down _ = _
  unfold B_Choose_down
  exact run_ret (seq_go (r' := E (V oneP) .un) (set_go (x := .nw (pO oneP)) (one_ev _) rfl (by simp [startE])) (seq_go (r' := E (V (dnC h l far)) (.vl true (.fz (t3 (rl far (dif3 h l)))))) (for_go (rl_its hk hf rfl rfl) (forL_two (r1 := E (V oneP) (.vl true (.fz (t3 (rl far l))))) (r2 := E (V (timesP oneP (dnR l far))) (.vl true (.fz (t3 (rl far l))))) (r3 := E (V (timesP oneP (dnR l far))) (.vl true (.fz (t3 (rl far (dif3 h l)))))) rfl (st _ 0 1 l hk.lo.1 one_bx (by omega) (by omega) (by omega)) rfl (st _ 12 564 (dif3 h l) hk.lo.2.1 b3 (by omega) (by omega) (by omega)))) rfl))
theorem aug_mul {i : Nat} {f : FE} {r : Env} {a b : Int} {w : Bool} (m n : Nat) (h : r[i]? = some (.vl w (I a))) (h2 : f r = .ok (.nw (I b))) (ha : a.natAbs < 2 ^ m) (hb : b.natAbs < 2 ^ n) (h0 : 0 < m := by omega) (h1 : 0 < n := by omega) (h3 : m + n ≤ 1000000 := by omega) : sAug i gMul f r = .nx (r.set i (VI (a * b))) := by
  have hi : i < r.length := (List.getElem?_eq_some_iff.mp h).1
  have hm : gMul (I a) (I b) = .ok (.nw (I (a * b))) := by
    have := gMul_lt (i := a) (j := b) m n ha hb h0 h1 (Nat.le_trans h3 (by omega))
    exact this
  simp only [sAug, h, sUse_ev, h2, ra_nw, er_fz, hm, put_nwF, setS_ev, if_pos hi]
theorem pow_lt (x : Int) (m : Nat) (hx : x.natAbs < 2 ^ m) : ∀ k : Nat, (x ^ k).natAbs < 2 ^ (m * k + 1)
  | 0 => by simp
  | k + 1 => by
    rw [Int.pow_succ]
    exact natAbs_mul_lt (pow_lt x m hx k) hx (by rw [Nat.mul_add]; omega)
theorem raised_ok {p : Int × Int} {k : Nat} (hk : k ≤ 1000) (h1 : p.1.natAbs < 2 ^ 70) (h2 : p.2.natAbs < 2 ^ 70) : M_raised [.fz (fD p), I k] = .ok (.fz (fD (p.1 ^ k, p.2 ^ k))) := by
  have e := rng_ok (fs := aCons (eVar 1) aNil) (r := [.vl false (.fz (fD p)), .vl false (I k), VI 1, VI 1, .un]) (n := k) rfl (by omega)
  obtain ⟨r', e2, y, hr⟩ := forL_inv (fg := gN 4) (F := sSeq (sAug 2 gMul (eIx (eVar 0) (eC (.int 0)))) (sAug 3 gMul (eIx (eVar 0) (eC (.int 1))))) (its := (List.range k).map fun (j : Nat) => intR (j : Int)) (r := [.vl false (.fz (fD p)), .vl false (I k), VI 1, VI 1, .un])
    (fun i r => ∃ y : S, r = [.vl false (.fz (fD p)), .vl false (I k), VI (p.1 ^ i), VI (p.2 ^ i), y]) ⟨.un, by simp⟩ (fun i y r hy ⟨z, hr⟩ => by
      subst hr
      obtain ⟨hi, rfl⟩ : i < k ∧ y = intR (i : Int) := by
        rw [List.getElem?_map] at hy
        cases hj : (List.range k)[i]? with
        | none => rw [hj] at hy; cases hy
        | some j =>
          rw [hj] at hy
          obtain ⟨h1, h2⟩ := List.getElem?_eq_some_iff.mp hj
          simp at h1 h2
          subst h2
          exact ⟨by omega, (Option.some.inj hy).symm⟩
      have a1 := aug_mul (i := 2) (f := eIx (eVar 0) (eC (.int 0))) (r := [.vl false (.fz (fD p)), .vl false (I k), VI (p.1 ^ i), VI (p.2 ^ i), VI (i : Int)]) (a := p.1 ^ i) (b := p.1) (w := true) (70 * i + 1) 70 rfl (ix_t 0 rfl rfl) (pow_lt _ 70 h1 i) h1
      have a2 := aug_mul (i := 3) (f := eIx (eVar 0) (eC (.int 1))) (r := [.vl false (.fz (fD p)), .vl false (I k), VI (p.1 ^ i * p.1), VI (p.2 ^ i), VI (i : Int)]) (a := p.2 ^ i) (b := p.2) (w := true) (70 * i + 1) 70 rfl (ix_t 1 rfl rfl) (pow_lt _ 70 h2 i) h2
      refine ⟨[.vl false (.fz (fD p)), .vl false (I k), VI (p.1 ^ i), VI (p.2 ^ i), VI (i : Int)], _, by simp [intR], seq_go a1 a2, VI (i : Int), by simp [Int.pow_succ]⟩)
  rw [List.length_map, List.length_range] at hr
  show runF 5 B_raised _ = _
  unfold B_raised
  refine run_ret (seq_go (r' := [.vl false (.fz (fD p)), .vl false (I k), VI 1, .un, .un]) (set_go (eC_ev _) rfl (by simp [startE])) (seq_go (r' := [.vl false (.fz (fD p)), .vl false (I k), VI 1, VI 1, .un]) (set_go (eC_ev _) rfl (by simp)) (seq_go (for_go e e2) (ret_go ?_))))
  rw [hr]; rfl
theorem one_part (n : Nat) (os : List O) (B : FS) (hB : B = sRet (eDspT (((eTup (aCons (eC (.int 0)) (aCons (eC (.int 0)) aNil))), (eC (.int 1))) :: []))) : runF n B os = .ok (pO oneP) := by
  subst hB
  exact run_ret (ret_go (one_ev _))
theorem fr_b {f : Int × Int} (h : okFr f) : f.1.natAbs < 2 ^ 70 ∧ f.2.natAbs < 2 ^ 70 ∧ f.1 ≠ 0 ∧ f.2 ≠ 0 := by
  unfold okFr at h
  exact ⟨h.2.1, by omega, h.1, by omega⟩
theorem num_bx {v : Int} {m : Nat} (h0 : v ≠ 0) (hm : v.natAbs < 2 ^ m) : Bx [((0, 0), v)] 0 0 m := ⟨⟨by show ([((0, 0) : PK)]).Nodup; decide, fun x hx => by
  have : x = ((0, 0), v) := by simpa using hx
  rw [this]; exact h0⟩, fun x hx => by
  have : x = ((0, 0), v) := by simpa using hx
  rw [this]; dsimp only; omega, fun x hx => by
  have : x = ((0, 0), v) := by simpa using hx
  rw [this]; exact hm⟩
theorem stp_bx {p : Pt} (hp : okPt p) {i far : Int} (hi : 0 ≤ i ∧ i ≤ far) (hf : far ≤ 2) : Bx (stpPt p i far) 30 30 1400 := by
  cases p with
  | ch h l => exact (stpC_bx hp hi hf).2
  | wt f =>
    have h3 := mul3 (i := i) (a := f.1) (by omega)
    refine (form_bx (m := 202) ?_).up (by omega) (by omega) (by omega)
    obtain ⟨q1, q2, q3⟩ := hp
    exact ⟨lt_up q1 (by omega), lt_up q2 (by omega), by dsimp only; omega⟩
  | pw f => exact one_bx.up (by omega) (by omega) (by omega)
  | gr f =>
    obtain ⟨q1, q2, q3, q4⟩ := fr_b hp
    refine (num_bx (m := 1400) ?_ ?_).up (by omega) (by omega) (by omega)
    · exact Int.mul_ne_zero (Int.pow_ne_zero q3) (Int.pow_ne_zero q4)
    · exact natAbs_mul_lt (pow_lt _ 70 q1 _) (pow_lt _ 70 q2 _) (by omega)
theorem up_bx {p : Pt} (hp : okPt p) {far : Int} (hf : 0 ≤ far ∧ far ≤ 2) : Bx (upPt p far) 30 30 1400 := by
  cases p with
  | ch h l => exact (upC_bx hp hf).2.2
  | wt f => exact one_bx.up (by omega) (by omega) (by omega)
  | pw f => exact (num_bx (fr_b hp).2.2.1 (fr_b hp).1).up (by omega) (by omega) (by omega)
  | gr f => exact one_bx.up (by omega) (by omega) (by omega)
theorem dn_bx {p : Pt} (hp : okPt p) {far : Int} (hf : 0 ≤ far ∧ far ≤ 2) : Bx (dnPt p far) 30 30 1400 := by
  cases p with
  | ch h l => exact (dnC_bx hp hf).2
  | wt f => exact one_bx.up (by omega) (by omega) (by omega)
  | pw f => exact (num_bx (fr_b hp).2.2.2 (fr_b hp).2.1).up (by omega) (by omega) (by omega)
  | gr f => exact one_bx.up (by omega) (by omega) (by omega)
theorem step_cls {p : Pt} (hp : okPt p) {i far : Int} (hi : 0 ≤ i ∧ i ≤ far) (hf : far ≤ 2) : ∃ M o, List.lookup (clPt p).1 [("Choose", M_Choose_step), ("Weight", M_Weight_step), ("Power", M_Part_step), ("Growth", M_Growth_step)] = some M ∧ M [.fz (ptE p), I i, I far] = .ok o ∧ IsQ o (stpPt p i far) := by
  cases p with
  | ch h l => exact ⟨M_Choose_step, _, rfl, cstep_ok hp hi hf, .inr rfl⟩
  | wt f =>
    refine ⟨M_Weight_step, _, rfl, ?_, .inl rfl⟩
    have h3 := mul3 (i := i) (a := f.1) (by omega)
    obtain ⟨q1, q2, q3⟩ := hp
    have ff := fld_form (i := 0) (r := startE 3 [.fz (ptE (.wt f)), I i, I far]) (f := f) rfl
    have i0 : eIx (eFld TF_form "form" (eVar 0)) (eC (.int 0)) (startE 3 [.fz (ptE (.wt f)), I i, I far]) = .ok (.nw (I f.1)) := ix_t 0 (ds := [.int f.1, .int f.2.1, .int f.2.2]) ff rfl
    have i1 : eIx (eFld TF_form "form" (eVar 0)) (eC (.int 1)) (startE 3 [.fz (ptE (.wt f)), I i, I far]) = .ok (.nw (I f.2.1)) := ix_t 1 (ds := [.int f.1, .int f.2.1, .int f.2.2]) ff rfl
    have i2 : eIx (eFld TF_form "form" (eVar 0)) (eC (.int 2)) (startE 3 [.fz (ptE (.wt f)), I i, I far]) = .ok (.nw (I f.2.2)) := ix_t 2 (ds := [.int f.1, .int f.2.1, .int f.2.2]) ff rfl
    show runF 3 B_Weight_step _ = _
    unfold B_Weight_step
    exact run_ret (ret_go (call1 (e_t3 i0 i1 (e_add i2 (e_mul (a := i) 10 200 rfl i0 (by omega) q1))) (pform_ok _)))
  | pw f => exact ⟨M_Part_step, _, rfl, one_part 3 _ B_Part_step rfl, .inl rfl⟩
  | gr f =>
    refine ⟨M_Growth_step, _, rfl, ?_, .inl rfl⟩
    obtain ⟨q1, q2, q3, q4⟩ := fr_b hp
    have ff := fld_frac (i := 0) (r := startE 3 [.fz (ptE (.gr f)), I i, I far]) (f := f) (p := .gr f) (.inr rfl) rfl
    have c1 : eCall M_raised (aCons (eFld TF_fraction "fraction" (eVar 0)) (aCons (eVar 1) aNil)) (startE 3 [.fz (ptE (.gr f)), I i, I far]) = .ok (.nw (.fz (fD (f.1 ^ i.toNat, f.2 ^ i.toNat)))) := call2 (y := .nw (I i)) ff rfl (by
      have := raised_ok (p := f) (k := i.toNat) (by omega) q1 q2
      rw [Int.toNat_of_nonneg hi.1] at this
      exact this)
    have c2 : eCall M_raised (aCons (eFld TF_fraction "fraction" (eVar 0)) (aCons (eOp gSub (eVar 2) (eVar 1)) aNil)) (startE 3 [.fz (ptE (.gr f)), I i, I far]) = .ok (.nw (.fz (fD (f.1 ^ (far - i).toNat, f.2 ^ (far - i).toNat)))) := call2 (y := .nw (I (far - i))) ff (e_sub (a := far) (b := i) rfl rfl) (by
      have := raised_ok (p := f) (k := (far - i).toNat) (by omega) q1 q2
      rw [Int.toNat_of_nonneg (by omega)] at this
      exact this)
    show runF 3 B_Growth_step _ = _
    unfold B_Growth_step
    exact run_ret (ret_go (num_ev (e_mul (70 * i.toNat + 1) (70 * (far - i).toNat + 1) (e_tup0 c1) (e_tup1 c2) (pow_lt _ 70 q1 _) (pow_lt _ 70 q2 _))))
theorem up_cls {p : Pt} (hp : okPt p) {far : Int} (hf : 0 ≤ far ∧ far ≤ 2) : ∃ M o, List.lookup (clPt p).1 [("Choose", M_Choose_up), ("Weight", M_Part_up), ("Power", M_Power_up), ("Growth", M_Part_up)] = some M ∧ M [.fz (ptE p), I far] = .ok o ∧ IsQ o (upPt p far) := by
  cases p with
  | ch h l => exact ⟨M_Choose_up, _, rfl, cup_ok hp hf, .inr rfl⟩
  | wt f => exact ⟨M_Part_up, _, rfl, one_part 2 _ B_Part_up rfl, .inl rfl⟩
  | pw f =>
    refine ⟨M_Power_up, _, rfl, ?_, .inl rfl⟩
    have ff := fld_frac (i := 0) (r := startE 2 [.fz (ptE (.pw f)), I far]) (f := f) (p := .pw f) (.inl rfl) rfl
    show runF 2 B_Power_up _ = _
    unfold B_Power_up
    exact run_ret (ret_go (num_ev (e_tup0 (a := f.1) (b := f.2) ff)))
  | gr f => exact ⟨M_Part_up, _, rfl, one_part 2 _ B_Part_up rfl, .inl rfl⟩
theorem down_cls {p : Pt} (hp : okPt p) {far : Int} (hf : 0 ≤ far ∧ far ≤ 2) : ∃ M o, List.lookup (clPt p).1 [("Choose", M_Choose_down), ("Weight", M_Part_down), ("Power", M_Power_down), ("Growth", M_Part_down)] = some M ∧ M [.fz (ptE p), I far] = .ok o ∧ IsQ o (dnPt p far) := by
  cases p with
  | ch h l => exact ⟨M_Choose_down, _, rfl, cdown_ok hp hf, .inr rfl⟩
  | wt f => exact ⟨M_Part_down, _, rfl, one_part 2 _ B_Part_down rfl, .inl rfl⟩
  | pw f =>
    refine ⟨M_Power_down, _, rfl, ?_, .inl rfl⟩
    have ff := fld_frac (i := 0) (r := startE 2 [.fz (ptE (.pw f)), I far]) (f := f) (p := .pw f) (.inl rfl) rfl
    show runF 2 B_Power_down _ = _
    unfold B_Power_down
    exact run_ret (ret_go (num_ev (e_tup1 (a := f.1) (b := f.2) ff)))
  | gr f => exact ⟨M_Part_down, _, rfl, one_part 2 _ B_Part_down rfl, .inl rfl⟩
def foP (g : Pt → PP) (P : PP) (ps : List Pt) : PP := ps.foldl (fun P p => timesP P (g p)) P
abbrev foF (g : Pt → PP) (ps : List Pt) : PP := foP g oneP ps
theorem foF_snoc (g : Pt → PP) (ps : List Pt) (p : Pt) : foF g (ps ++ [p]) = timesP (foF g ps) (g p) := by
  unfold foF foP
  rw [List.foldl_append]; rfl
theorem foP_bx {g : Pt → PP} : ∀ (ps : List Pt) {P : PP} {a m : Nat}, (∀ p ∈ ps, Bx (g p) 30 30 1400) → Bx P a a m → a + 30 * ps.length ≤ 200 → Bx (foP g P ps) (a + 30 * ps.length) (a + 30 * ps.length) (m + 1434 * ps.length)
  | [], P, a, m, _, h, _ => h
  | p :: ps, P, a, m, hg, h, hl => by
    rw [List.length_cons] at hl
    have h1 := times_bx h (hg p List.mem_cons_self) (by
      have : (a + 30 + 1) * (a + 30 + 1) ≤ 201 * 201 := Nat.mul_le_mul (by omega) (by omega)
      omega)
    have h2 := foP_bx ps (fun q hq => hg q (List.mem_cons_of_mem _ hq)) h1 (by omega)
    rw [List.length_cons]
    exact h2.up (by omega) (by omega) (by omega)
theorem foF_bx {g : Pt → PP} {ps : List Pt} (hg : ∀ p ∈ ps, Bx (g p) 30 30 1400) (hl : ps.length ≤ 6) : Bx (foF g ps) (30 * ps.length) (30 * ps.length) (1 + 1434 * ps.length) := by
  have := foP_bx ps hg one_bx (by omega)
  rw [Nat.zero_add] at this
  exact this
theorem foF_times {o1 o2 : O} {g : Pt → PP} {ps : List Pt} {p : Pt} (hg : ∀ q ∈ ps, Bx (g q) 30 30 1400) (hp : Bx (g p) 30 30 1400) (hl : ps.length < 6) (h1 : IsQ o1 (foF g ps)) (h2 : IsQ o2 (g p)) : M_pair_times [o1, o2] = .ok (pO (foF g (ps ++ [p]))) := by
  rw [foF_snoc]
  refine times_ok h1 h2 (foF_bx hg (by omega)) hp ?_ (by omega) (by omega) (by omega)
  have : (30 * ps.length + 30 + 1) * (30 * ps.length + 30 + 1) ≤ 201 * 201 := Nat.mul_le_mul (by omega) (by omega)
  omega
theorem fzsOf_fz (ds : List D) : fzsOf (ds.map fun d => DL.R.nw (.fz d)) = some ds := by
  induction ds with
  | nil => rfl
  | cons d ds ih =>
    rw [List.map_cons]
    simp only [fzsOf]
    rw [ih]; rfl
theorem enum_range {f : FE} {r : Env} {n : Nat} {g : Nat → D} (h : f r = .ok (.nw (.fz (.lst ((List.range n).map g))))) : iEnumD f r = .ok ((List.range n).map fun i => tup2 (.int (i : Nat)) (g i)) := by
  have e : itsL (.nw (.fz (.lst ((List.range n).map g)))) = .ok (((List.range n).map g).map fun d => .nw (.fz d)) := by simp [itsL]
  simp only [iEnumD, h, res_ok, e, enumR, fzsOf_fz, enumL]
  congr 1
  refine List.ext_getElem (by simp) fun i h1 h2 => ?_
  simp
def frD (ps : List Pt) (far : Nat) : D := .tup [.lst ((List.range (far + 1)).map fun (i : Nat) => pD (foF (fun p => stpPt p i far) ps)), pD (foF (fun p => upPt p far) ps), pD (foF (fun p => dnPt p far) ps)]
theorem forL_spl {β : Type} {fg : FG} {F : FS} {g : β → R} {P : List β → Env → Prop} : ∀ (xs done : List β) (r : Env), P done r → (∀ (d : List β) (x : β) (e : List β) (r : Env), d ++ x :: e = done ++ xs → P d r → ∃ r1 r', fg (g x) r = some r1 ∧ F r1 = .nx r' ∧ P (d ++ [x]) r') → ∃ r', forL fg F (xs.map g) r = .nx r' ∧ P (done ++ xs) r'
  | [], done, r, h, _ => ⟨r, rfl, by simpa using h⟩
  | x :: xs, done, r, h, hs => by
    obtain ⟨r1, r2, e1, e2, p2⟩ := hs done x xs r rfl h
    obtain ⟨r3, e3, p3⟩ := forL_spl xs (done ++ [x]) r2 p2 fun d y e r hy => hs d y e r (by simpa using hy)
    exact ⟨r3, by rw [List.map_cons, forL_cons e1 e2]; exact e3, by simpa using p3⟩
theorem frame_ok {ps : List Pt} (hp : ∀ p ∈ ps, okPt p) (hl : ps.length ≤ 6) {far : Nat} (hf : far ≤ 2) : M_Term_frame [.fz (tmE ps), I far] = .ok (.fz (frD ps far)) := by
  let U (g : Pt → PP) (d : List Pt) : S := .vl true (.fz (pD (foF g d)))
  let L (d : List Pt) : D := .lst ((List.range (far + 1)).map fun (i : Nat) => pD (foF (fun p => stpPt p i far) d))
  let E (d : List Pt) (y : S) : Env := [.vl false (.fz (tmE ps)), .vl false (I far), .vl true (.fz (L d)), U (fun p => upPt p far) d, U (fun p => dnPt p far) d, y, .un, .un]
  have hmade : iLst (eFld TF_made "made" (eVar 0)) (E [] .un) = .ok (ps.map fun p => .nw (.fz (ptE p))) := by
    have e : eFld TF_made "made" (eVar 0) (E [] .un) = .ok (.nw (.fz (.lst (ps.map ptE)))) := by
      show (Res.ok (see false (.fz (tmE ps)))).bind (fldR TF_made "made") = _
      rw [res_ok, see_fz]
      simp [fldR, tmE, TF_made, List.lookup]
    rw [iLst_ds e, List.map_map]; rfl
  have step : ∀ (d : List Pt) (p : Pt) (e : List Pt) (r : Env), d ++ p :: e = [] ++ ps → (∃ y, r = E d y) → ∃ r1 r', gN 5 (.nw (.fz (ptE p))) r = some r1 ∧ (sSeq (sSet 2 false (eLcD (iEnumD (eVar 2)) (gT [(gN 6), (gN 7)]) [6, 7] tYesD (eCall M_pair_times (aCons (eVar 7) (aCons (eMeth [("Choose", M_Choose_step), ("Weight", M_Weight_step), ("Power", M_Part_step), ("Growth", M_Growth_step)] "step" (eVar 5) (aCons (eVar 6) (aCons (eVar 1) aNil))) aNil))))) (sSeq (sSet 3 false (eCall M_pair_times (aCons (eVar 3) (aCons (eMeth [("Choose", M_Choose_up), ("Weight", M_Part_up), ("Power", M_Power_up), ("Growth", M_Part_up)] "up" (eVar 5) (aCons (eVar 1) aNil)) aNil)))) (sSet 4 false (eCall M_pair_times (aCons (eVar 4) (aCons (eMeth [("Choose", M_Choose_down), ("Weight", M_Part_down), ("Power", M_Power_down), ("Growth", M_Part_down)] "down" (eVar 5) (aCons (eVar 1) aNil)) aNil)))))) r1 = .nx r' ∧ (∃ y, r' = E (d ++ [p]) y) := by
    intro d p e r he ⟨y, hr⟩
    subst hr
    rw [List.nil_append] at he
    have hpm : p ∈ ps := by rw [← he]; simp
    have hd : ∀ q ∈ d, okPt q := fun q hq => hp q (by rw [← he]; exact List.mem_append.mpr (.inl hq))
    have hpo : okPt p := hp p hpm
    have hdl : d.length < 6 := by
      have := congrArg List.length he
      rw [List.length_append, List.length_cons] at this
      omega
    have f2 : (0 : Int) ≤ (far : Int) ∧ (far : Int) ≤ 2 := by omega
    let P1 : S := .vl true (.fz (ptE p))
    have s1 : sSet 2 false (eLcD (iEnumD (eVar 2)) (gT [(gN 6), (gN 7)]) [6, 7] tYesD (eCall M_pair_times (aCons (eVar 7) (aCons (eMeth [("Choose", M_Choose_step), ("Weight", M_Weight_step), ("Power", M_Part_step), ("Growth", M_Growth_step)] "step" (eVar 5) (aCons (eVar 6) (aCons (eVar 1) aNil))) aNil)))) (E d P1) = .nx ((E d P1).set 2 (.vl true (.fz (L (d ++ [p]))))) := by
      refine set_go (x := .nw (.ls ((List.range (far + 1)).map fun (i : Nat) => pO (foF (fun p => stpPt p i far) (d ++ [p]))))) ?_ ?_ (by simp [E])
      · refine lcD_map (g := fun (i : Nat) => tup2 (.int (i : Nat)) (pD (foF (fun p => stpPt p i far) d))) (enum_range rfl) (by simp [E]) (fun i hi => ⟨[.vl false (.fz (tmE ps)), .vl false (I far), .vl true (.fz (L d)), U (fun p => upPt p far) d, U (fun p => dnPt p far) d, P1, VI (i : Int), .vl true (.fz (pD (foF (fun p => stpPt p i far) d)))], by simp [wipeE, E, tup2, gT, gL], ?_⟩) (by simp; omega)
        have hi2 : i ≤ far := by have := List.mem_range.mp hi; omega
        obtain ⟨M, o, hM, eM, q⟩ := step_cls hpo (i := (i : Int)) (far := (far : Int)) (by omega) (by omega)
        refine call2 (x := .nw (.fz (pD (foF (fun p => stpPt p i far) d)))) (y := .nw o) rfl (meth_ok (x := .nw (.fz (ptE p))) (os := [I i, I far]) rfl (cls_pt p) (by cases p <;> simp only [clPt] <;> decide) hM rfl eM) ?_
        refine foF_times (g := fun p => stpPt p i far) (fun q hq => stp_bx (hd q hq) (by omega) (by omega)) (stp_bx hpo (by omega) (by omega)) hdl (.inr rfl) ?_
        rcases q with q | q
        · rw [q]; exact .inr rfl
        · rw [q]; exact .inr rfl
      · have : er (.ls ((List.range (far + 1)).map fun (i : Nat) => pO (foF (fun p => stpPt p i far) (d ++ [p])))) = L (d ++ [p]) := by
          rw [er_ls, ers_eq, List.map_map]; rfl
        show some (S.vl true (.fz (er (.ls ((List.range (far + 1)).map fun (i : Nat) => pO (foF (fun p => stpPt p i far) (d ++ [p]))))))) = _
        rw [this]
    have qo : ∀ {o : O} {P : PP}, IsQ o P → IsQ (DL.R.nw o).a P := fun {o P} q => by
      rcases q with q | q
      · rw [q]; exact .inr rfl
      · rw [q]; exact .inr rfl
    have s2 : sSet 3 false (eCall M_pair_times (aCons (eVar 3) (aCons (eMeth [("Choose", M_Choose_up), ("Weight", M_Part_up), ("Power", M_Power_up), ("Growth", M_Part_up)] "up" (eVar 5) (aCons (eVar 1) aNil)) aNil))) ((E d P1).set 2 (.vl true (.fz (L (d ++ [p]))))) = .nx (((E d P1).set 2 (.vl true (.fz (L (d ++ [p]))))).set 3 (U (fun p => upPt p far) (d ++ [p]))) := by
      obtain ⟨M, o, hM, eM, q⟩ := up_cls hpo f2
      exact set_go (x := .nw (pO (foF (fun p => upPt p far) (d ++ [p])))) (call2 (x := .nw (.fz (pD (foF (fun p => upPt p far) d)))) (y := .nw o) rfl (meth_ok (x := .nw (.fz (ptE p))) (os := [I far]) rfl (cls_pt p) (by cases p <;> simp only [clPt] <;> decide) hM rfl eM) (foF_times (g := fun p => upPt p far) (fun q hq => up_bx (hd q hq) f2) (up_bx hpo f2) hdl (.inr rfl) (qo q))) rfl (by simp [E])
    have s3 : sSet 4 false (eCall M_pair_times (aCons (eVar 4) (aCons (eMeth [("Choose", M_Choose_down), ("Weight", M_Part_down), ("Power", M_Power_down), ("Growth", M_Part_down)] "down" (eVar 5) (aCons (eVar 1) aNil)) aNil))) (((E d P1).set 2 (.vl true (.fz (L (d ++ [p]))))).set 3 (U (fun p => upPt p far) (d ++ [p]))) = .nx (E (d ++ [p]) P1) := by
      obtain ⟨M, o, hM, eM, q⟩ := down_cls hpo f2
      exact set_go (x := .nw (pO (foF (fun p => dnPt p far) (d ++ [p])))) (call2 (x := .nw (.fz (pD (foF (fun p => dnPt p far) d)))) (y := .nw o) rfl (meth_ok (x := .nw (.fz (ptE p))) (os := [I far]) rfl (cls_pt p) (by cases p <;> simp only [clPt] <;> decide) hM rfl eM) (foF_times (g := fun p => dnPt p far) (fun q hq => dn_bx (hd q hq) f2) (dn_bx hpo f2) hdl (.inr rfl) (qo q))) rfl (by simp [E])
    exact ⟨E d P1, _, by simp [E, P1], seq_go s1 (seq_go s2 s3), P1, rfl⟩
  obtain ⟨r', hw, y, er⟩ := forL_spl (fg := gN 5) (F := (sSeq (sSet 2 false (eLcD (iEnumD (eVar 2)) (gT [(gN 6), (gN 7)]) [6, 7] tYesD (eCall M_pair_times (aCons (eVar 7) (aCons (eMeth [("Choose", M_Choose_step), ("Weight", M_Weight_step), ("Power", M_Part_step), ("Growth", M_Growth_step)] "step" (eVar 5) (aCons (eVar 6) (aCons (eVar 1) aNil))) aNil))))) (sSeq (sSet 3 false (eCall M_pair_times (aCons (eVar 3) (aCons (eMeth [("Choose", M_Choose_up), ("Weight", M_Part_up), ("Power", M_Power_up), ("Growth", M_Part_up)] "up" (eVar 5) (aCons (eVar 1) aNil)) aNil)))) (sSet 4 false (eCall M_pair_times (aCons (eVar 4) (aCons (eMeth [("Choose", M_Choose_down), ("Weight", M_Part_down), ("Power", M_Power_down), ("Growth", M_Part_down)] "down" (eVar 5) (aCons (eVar 1) aNil)) aNil)))))))
    (g := fun p => .nw (.fz (ptE p))) (P := fun d r => ∃ y, r = E d y) ps [] (E [] .un) ⟨.un, rfl⟩ step
  subst er
  show runF 8 B_Term_frame _ = _
  unfold B_Term_frame
  refine run_ret (seq_go (r' := [.vl false (.fz (tmE ps)), .vl false (I far), .vl true (.fz (L [])), .un, .un, .un, .un, .un]) ?_ (seq_go (r' := [.vl false (.fz (tmE ps)), .vl false (I far), .vl true (.fz (L [])), U (fun p => upPt p far) [], .un, .un, .un, .un]) ?_ (seq_go (r' := E [] .un) ?_ (seq_go (for_go hmade hw) (ret_go ?_)))))
  · refine set_go (x := .nw (.ls ((List.range (far + 1)).map fun (_ : Nat) => pO oneP))) ?_ ?_ (by simp [startE])
    · refine lcD_map (g := fun (i : Nat) => intR (i : Int)) (v := fun _ => pO oneP) ?_ (by simp [startE]) (fun i hi => ⟨_, by simp [wipeE, startE, intR]; rfl, one_ev _⟩) (by simp; omega)
      refine rng_ok (n := far + 1) ?_ (by omega)
      have := e_add (f := eVar 1) (g := eC (.int 1)) (r := startE 8 [.fz (tmE ps), I far]) (a := far) (b := 1) rfl (eC_ev _)
      simp only [aCons_ev, this, res_ok, aNil_ev]; rfl
    · have : er (.ls ((List.range (far + 1)).map fun (_ : Nat) => pO oneP)) = L [] := by
        rw [er_ls, ers_eq, List.map_map]; rfl
      show some (S.vl true (.fz (er (.ls ((List.range (far + 1)).map fun (_ : Nat) => pO oneP))))) = _
      rw [this]
  · exact set_go (x := .nw (pO oneP)) (one_ev _) rfl (by simp)
  · exact set_go (x := .nw (pO oneP)) (one_ev _) rfl (by simp)
  · rfl
def mon (k : PK) (n m : Int) : Int := n ^ k.1.toNat * m ^ k.2.toNat
def pvl (P : PP) (n m : Int) : Int := (P.map fun x => x.2 * mon x.1 n m).sum
theorem ev_append (P Q : PP) (n m : Int) : pvl (P ++ Q) n m = pvl P n m + pvl Q n m := by
  unfold pvl
  rw [List.map_append, List.sum_append]
theorem ev_nz (P : PP) (n m : Int) : pvl (nzP P) n m = pvl P n m := by
  induction P with
  | nil => rfl
  | cons x P ih =>
    by_cases h : x.2 = 0
    · rw [show nzP (x :: P) = nzP P from List.filter_cons_of_neg (by simp [h]), ih]
      show _ = x.2 * _ + pvl P n m
      rw [h, Int.zero_mul, Int.zero_add]
    · rw [show nzP (x :: P) = x :: nzP P from List.filter_cons_of_pos (by simp [h])]
      show x.2 * _ + pvl (nzP P) n m = x.2 * _ + pvl P n m
      rw [ih]
theorem ev_stp (P : PP) (k : PK) (v n m : Int) : pvl (stp P k (gv P k + v)) n m = pvl P n m + v * mon k n m := by
  induction P with
  | nil =>
    show pvl [(k, 0 + v)] n m = 0 + v * mon k n m
    show (0 + v) * mon k n m + 0 = _
    rw [Int.zero_add, Int.add_zero, Int.zero_add]
  | cons x P ih =>
    unfold stp
    by_cases h : x.1 = k
    · rw [if_pos h]
      have g : gv (x :: P) k = x.2 := by
        show (if x.1 = k then some x.2 else gt P k).getD 0 = _
        rw [if_pos h]; rfl
      rw [g]
      show (x.2 + v) * mon k n m + pvl P n m = x.2 * mon x.1 n m + pvl P n m + v * mon k n m
      rw [h, Int.add_mul]; omega
    · rw [if_neg h]
      have g : gv (x :: P) k = gv P k := by
        show (if x.1 = k then some x.2 else gt P k).getD 0 = _
        rw [if_neg h]; rfl
      rw [g]
      show x.2 * mon x.1 n m + pvl (stp P k (gv P k + v)) n m = x.2 * mon x.1 n m + pvl P n m + v * mon k n m
      rw [ih]; omega
theorem ev_fold : ∀ (xs P : PP) (n m : Int), pvl (xs.foldl addP P) n m = pvl P n m + pvl xs n m
  | [], P, n, m => by show _ = _ + (0 : Int); rw [Int.add_zero]; rfl
  | x :: xs, P, n, m => by
    rw [List.foldl_cons, ev_fold xs (addP P x) n m]
    unfold addP
    rw [ev_stp]
    show _ = _ + (x.2 * mon x.1 n m + pvl xs n m)
    omega
theorem mon_add {a b : PK} (ha : 0 ≤ a.1 ∧ 0 ≤ a.2) (hb : 0 ≤ b.1 ∧ 0 ≤ b.2) (n m : Int) : mon (a.1 + b.1, a.2 + b.2) n m = mon a n m * mon b n m := by
  unfold mon
  dsimp only
  rw [Int.toNat_add ha.1 hb.1, Int.toNat_add ha.2 hb.2, Int.pow_add, Int.pow_add, Int.mul_assoc, Int.mul_assoc]
  congr 1
  rw [← Int.mul_assoc, ← Int.mul_assoc, Int.mul_comm (n ^ b.1.toNat)]
theorem ev_map {l : PK × Int} (hl : 0 ≤ l.1.1 ∧ 0 ≤ l.1.2) (n m : Int) : ∀ Q : PP, (∀ x ∈ Q, 0 ≤ x.1.1 ∧ 0 ≤ x.1.2) → pvl (Q.map (mulT l)) n m = l.2 * mon l.1 n m * pvl Q n m
  | [], _ => by show (0 : Int) = _ * 0; rw [Int.mul_zero]
  | r :: Q, h => by
    have hr := h r List.mem_cons_self
    show (mulT l r).2 * mon (mulT l r).1 n m + pvl (Q.map (mulT l)) n m = l.2 * mon l.1 n m * (r.2 * mon r.1 n m + pvl Q n m)
    rw [ev_map hl n m Q fun x hx => h x (List.mem_cons_of_mem _ hx), Int.mul_add]
    congr 1
    show l.2 * r.2 * mon (l.1.1 + r.1.1, l.1.2 + r.1.2) n m = _
    rw [mon_add hl hr, Int.mul_assoc, Int.mul_assoc]
    congr 1
    rw [← Int.mul_assoc, ← Int.mul_assoc, Int.mul_comm r.2]
theorem ev_mulL (n m : Int) (Q : PP) (hQ : ∀ x ∈ Q, 0 ≤ x.1.1 ∧ 0 ≤ x.1.2) : ∀ P : PP, (∀ x ∈ P, 0 ≤ x.1.1 ∧ 0 ≤ x.1.2) → pvl (mulL P Q) n m = pvl P n m * pvl Q n m
  | [], _ => by show (0 : Int) = 0 * _; rw [Int.zero_mul]
  | l :: P, h => by
    have hl := h l List.mem_cons_self
    show pvl (Q.map (mulT l) ++ mulL P Q) n m = (l.2 * mon l.1 n m + pvl P n m) * pvl Q n m
    rw [ev_append, ev_map hl n m Q hQ, ev_mulL n m Q hQ P fun x hx => h x (List.mem_cons_of_mem _ hx), Int.add_mul]
theorem ev_times {P Q : PP} {a b m a' b' m' : Nat} (h : Bx P a b m) (h' : Bx Q a' b' m') (n k : Int) : pvl (timesP P Q) n k = pvl P n k * pvl Q n k := by
  unfold timesP
  rw [ev_nz, ev_fold]
  show 0 + _ = _
  rw [Int.zero_add]
  exact ev_mulL n k Q (fun x hx => by have := h'.k x hx; omega) P fun x hx => by have := h.k x hx; omega
def at3 (f : T3) (n k : Int) : Int := f.1 * n + f.2.1 * k + f.2.2
theorem ev_form (f : T3) (n k : Int) : pvl (formP f) n k = at3 f n k := by
  unfold formP
  rw [ev_nz]
  show f.1 * (n ^ 1 * k ^ 0) + (f.2.1 * (n ^ 0 * k ^ 1) + (f.2.2 * (n ^ 0 * k ^ 0) + 0)) = _
  unfold at3
  simp only [Int.pow_zero, Int.pow_succ, Int.one_mul, Int.mul_one, Int.add_zero]
  omega
theorem ev_one (n k : Int) : pvl oneP n k = 1 := by
  show 1 * (n ^ 0 * k ^ 0) + 0 = 1
  simp
theorem ev_num (v n k : Int) : pvl [((0, 0), v)] n k = v := by
  show v * (n ^ 0 * k ^ 0) + 0 = v
  simp
def rise (x lo : Int) : Nat → Int
  | 0 => 1
  | j + 1 => rise x lo j * (x + (lo + j))
theorem ev_ris {f : T3} {lo : Int} (hf : lt3 9 f) (hlo : -100 ≤ lo ∧ lo ≤ 100) (n k : Int) : ∀ j : Nat, j ≤ 100 → pvl (risP f lo j) n k = rise (at3 f n k) lo j
  | 0, _ => ev_one n k
  | j + 1, h => by
    show pvl (timesP (risP f lo j) (formP _)) n k = _
    rw [ev_times (ris_bx hf hlo j (by omega)) (ris_form hf hlo (n := j) (by omega)), ev_ris hf hlo n k j (by omega), ev_form]
    show _ = rise (at3 f n k) lo j * _
    congr 1
    unfold at3
    dsimp only
    omega
theorem rise_zero {x lo : Int} {t : Int} : ∀ {j : Nat}, lo ≤ t → t < lo + j → x + t = 0 → rise x lo j = 0
  | 0, h1, h2, _ => by omega
  | j + 1, h1, h2, h3 => by
    show rise x lo j * (x + (lo + j)) = 0
    by_cases h : t < lo + j
    · rw [rise_zero h1 h h3, Int.zero_mul]
    · rw [show x + (lo + (j : Int)) = 0 by omega, Int.mul_zero]
def fct : Nat → Nat
  | 0 => 1
  | n + 1 => fct n * (n + 1)
theorem fct_pos : ∀ n, 1 ≤ fct n
  | 0 => by decide
  | n + 1 => by
    have := fct_pos n
    show 1 ≤ fct n * (n + 1)
    exact Nat.mul_pos this (by omega)
theorem fct_lt : ∀ n : Nat, n ≤ 4000 → fct n < 2 ^ (12 * n + 1)
  | 0, _ => by decide
  | n + 1, h => by
    have ih := fct_lt n (by omega)
    show fct n * (n + 1) < _
    have : fct n * (n + 1) < 2 ^ (12 * n + 1) * 2 ^ 12 := Nat.mul_lt_mul'' ih (by omega)
    rw [← Nat.pow_add] at this
    rw [show 12 * (n + 1) + 1 = 12 * n + 1 + 12 by omega]; exact this
def fc (x : Int) : Int := (fct x.toNat : Nat)
theorem fc_pos (x : Int) : 1 ≤ fc x := by
  have := fct_pos x.toNat
  unfold fc; omega
theorem fc_rise {x lo : Int} : ∀ (j : Nat), 0 ≤ x + lo → fc (x + lo + j) = fc (x + lo) * rise x (lo + 1) j
  | 0, _ => by rw [show x + lo + ((0 : Nat) : Int) = x + lo by omega]; show _ = _ * (1 : Int); rw [Int.mul_one]
  | j + 1, h => by
    have ih := fc_rise (x := x) (lo := lo) j h
    show _ = fc (x + lo) * (rise x (lo + 1) j * (x + (lo + 1 + j)))
    rw [← Int.mul_assoc, ← ih]
    unfold fc
    rw [show (x + lo + ((j + 1 : Nat) : Int)).toNat = (x + lo + (j : Int)).toNat + 1 by omega]
    show ((fct (x + lo + (j : Int)).toNat * ((x + lo + (j : Int)).toNat + 1) : Nat) : Int) = _
    rw [Int.natCast_mul]
    congr 1
    omega
def flC (h l : T3) (n k far : Int) : Int × Int :=
  if at3 (rl far l) n k < 0 ∨ at3 (rl far (dif3 h l)) n k < 0 then (0, 1) else (fc (at3 h n k), fc (at3 (rl far l) n k) * fc (at3 (rl far (dif3 h l)) n k))
def flP : Pt → Int → Int → Int → Int × Int
  | .ch h l, n, k, far => flC h l n k far
  | .wt _, _, _, _ => (1, 1)
  | .pw f, _, k, _ => (f.1 ^ k.toNat, f.2 ^ k.toNat)
  | .gr f, n, _, far => (f.1 ^ n.toNat, f.2 ^ n.toNat * f.2 ^ far.toNat)
def wrP : Pt → Int → Int → Int × Int
  | .ch h l, n, k => flC h l n k 0
  | .wt f, n, k => (at3 f n k, 1)
  | .pw f, _, k => (f.1 ^ k.toNat, f.2 ^ k.toNat)
  | .gr f, n, _ => (f.1 ^ n.toNat, f.2 ^ n.toNat)
theorem at_dif (h l : T3) (n k : Int) : at3 (dif3 h l) n k = at3 h n k - at3 l n k := by
  simp only [at3, dif3, Int.sub_mul]; omega
theorem at_rl (far : Int) (f : T3) (n k : Int) : at3 (rl far f) n k = at3 f n k + far * mx0 f.1 := by
  unfold at3 rl; dsimp only; omega
theorem at_n (f : T3) (n k i : Int) : at3 f (n + i) k = at3 f n k + i * f.1 := by
  unfold at3
  rw [Int.mul_add, Int.mul_comm i]; omega
theorem at_k (f : T3) (n k : Int) : at3 f n (k + 1) = at3 f n k + f.2.1 := by
  unfold at3
  rw [Int.mul_add, Int.mul_one]; omega
theorem mul0_far (f : T3) : at3 (rl 0 f) = at3 f := by
  funext n k
  rw [at_rl, Int.zero_mul, Int.add_zero]
theorem low_step {f : T3} (h : okLo f) {i far : Int} (hi : 0 ≤ i ∧ i ≤ far) (hf : far ≤ 2) (n k : Int) (hX : 0 ≤ at3 (rl far f) n k) : (0 ≤ at3 f (n + i) k → fc (at3 (rl far f) n k) = fc (at3 f (n + i) k) * pvl (riS f i far) n k) ∧ (at3 f (n + i) k < 0 → pvl (riS f i far) n k = 0) := by
  obtain ⟨a1, a2, a3, a4, a5⟩ := riS_n h hi hf
  have e : pvl (riS f i far) n k = rise (at3 f n k) (i * f.1 + 1) (mx0 (far * f.1) + 1 - (i * f.1 + 1)).toNat := ev_ris h.lt (by omega) n k _ (by omega)
  rw [e, at_n]
  rw [at_rl] at hX ⊢
  constructor
  · intro h0
    have := fc_rise (x := at3 f n k) (lo := i * f.1) (mx0 (far * f.1) + 1 - (i * f.1 + 1)).toNat h0
    rw [← this]
    congr 1
    omega
  · intro h0
    refine rise_zero (t := -(at3 f n k)) (by omega) ?_ (by omega)
    omega
theorem wr_zero_of {f : T3} (h : okLo f) {i far : Int} (hi : 0 ≤ i ∧ i ≤ far) (hf : far ≤ 2) (n k : Int) (hX : at3 (rl far f) n k < 0) : at3 f (n + i) k < 0 := by
  obtain ⟨a1, a2, a3, a4, a5⟩ := riS_n h hi hf
  rw [at_rl] at hX
  rw [at_n]
  omega
theorem hi_step {h l : T3} (hk : okCh h l) {i : Int} (hi : 0 ≤ i ∧ i ≤ 2) (n k : Int) (h0 : 0 ≤ at3 h n k) : fc (at3 h (n + i) k) = fc (at3 h n k) * pvl (risR h 1 (i * h.1)) n k := by
  obtain ⟨b1, b2⟩ := hi_bx hk hi
  have e : pvl (risR h 1 (i * h.1)) n k = rise (at3 h n k) (0 + 1) (i * h.1 + 1 - 1).toNat := ev_ris hk.lo.2.2.lt (by omega) n k _ (by omega)
  have := fc_rise (x := at3 h n k) (lo := 0) (i * h.1 + 1 - 1).toNat (by omega)
  rw [e, at_n]
  rw [Int.add_zero] at this
  rw [← this]
  congr 1
  omega
theorem stp_id {p : Pt} (hp : okPt p) {i far : Int} (hi : 0 ≤ i ∧ i ≤ far) (hf : far ≤ 2) {n k : Int} (hn : 0 ≤ n) (hkk : 0 ≤ k) : (wrP p (n + i) k).1 * (flP p n k far).2 = pvl (stpPt p i far) n k * (flP p n k far).1 * (wrP p (n + i) k).2 := by
  cases p with
  | ch h l =>
    obtain ⟨q1, q2, q3⟩ := okCh.lo hp
    have ev : pvl (stpC h l i far) n k = pvl (risR h 1 (i * h.1)) n k * pvl (riS l i far) n k * pvl (riS (dif3 h l) i far) n k := by
      unfold stpC
      rw [ev_times (stpC_bx hp hi hf).1 (riS_bx q2 hi hf), ev_times (hi_bx hp (i := i) (by omega)).2 (riS_bx q1 hi hf)]
    have dn := at_dif h l n k
    have dni := at_dif h l (n + i) k
    show (flC h l (n + i) k 0).1 * (flC h l n k far).2 = pvl (stpC h l i far) n k * (flC h l n k far).1 * (flC h l (n + i) k 0).2
    rw [ev]
    unfold flC
    rw [mul0_far, mul0_far]
    have nn : ∀ m : Int, 0 ≤ m → 0 ≤ h.1 * m ∧ 0 ≤ h.2.1 * m := fun m hm => by
      have hp' : okCh h l := hp
      unfold okCh at hp'
      exact ⟨Int.mul_nonneg (by omega) hm, Int.mul_nonneg (by omega) hm⟩
    have hH : 0 ≤ at3 h n k := by
      have := nn n hn
      have := nn k hkk
      have hp' : okCh h l := hp
      unfold okCh at hp'
      unfold at3; omega
    by_cases c : at3 (rl far l) n k < 0 ∨ at3 (rl far (dif3 h l)) n k < 0
    · have z : at3 l (n + i) k < 0 ∨ at3 (dif3 h l) (n + i) k < 0 := by
        rcases c with c | c
        · exact .inl (wr_zero_of q1 hi hf n k c)
        · exact .inr (wr_zero_of q2 hi hf n k c)
      rw [if_pos c, if_pos z]
      show (0 : Int) * 1 = _ * 0 * 1
      simp
    · rw [if_neg c]
      obtain ⟨s1, s2⟩ := low_step q1 hi hf n k (by omega)
      obtain ⟨t1, t2⟩ := low_step q2 hi hf n k (by omega)
      by_cases z : at3 l (n + i) k < 0 ∨ at3 (dif3 h l) (n + i) k < 0
      · rw [if_pos z]
        rcases z with z | z
        · rw [s2 z]; simp
        · rw [t2 z]; simp
      · rw [if_neg z, s1 (by omega), t1 (by omega), hi_step hp (by omega) n k hH]
        dsimp only
        generalize fc (at3 h n k) = A
        generalize pvl (risR h 1 (i * h.1)) n k = B
        generalize fc (at3 l (n + i) k) = C
        generalize pvl (riS l i far) n k = D
        generalize fc (at3 (dif3 h l) (n + i) k) = E
        generalize pvl (riS (dif3 h l) i far) n k = F
        grind
  | wt f =>
    show at3 f (n + i) k * 1 = pvl (formP (f.1, f.2.1, f.2.2 + i * f.1)) n k * 1 * 1
    rw [ev_form, at_n]
    unfold at3
    dsimp only
    omega
  | pw f =>
    show f.1 ^ k.toNat * f.2 ^ k.toNat = pvl oneP n k * f.1 ^ k.toNat * f.2 ^ k.toNat
    rw [ev_one, Int.one_mul]
  | gr f =>
    show f.1 ^ (n + i).toNat * (f.2 ^ n.toNat * f.2 ^ far.toNat) = pvl [((0, 0), f.1 ^ i.toNat * f.2 ^ (far - i).toNat)] n k * f.1 ^ n.toNat * f.2 ^ (n + i).toNat
    rw [ev_num, Int.toNat_add hn hi.1, Int.pow_add, Int.pow_add, show far.toNat = i.toNat + (far - i).toNat by omega, Int.pow_add]
    grind
theorem low_up {f : T3} (h : okLo f) {far : Int} (hf : 0 ≤ far ∧ far ≤ 2) (n k : Int) : (0 ≤ at3 (rl far f) n k → 0 ≤ at3 (rl far f) n (k + 1) → pvl (upR f far) n k * fc (at3 (rl far f) n (k + 1)) = pvl (dnR f far) n k * fc (at3 (rl far f) n k)) ∧ (0 ≤ at3 (rl far f) n k → at3 (rl far f) n (k + 1) < 0 → pvl (upR f far) n k = 0) ∧ (at3 (rl far f) n k < 0 → 0 ≤ at3 (rl far f) n (k + 1) → pvl (dnR f far) n k = 0) := by
  have h' := h
  unfold okLo at h'
  have eu : pvl (upR f far) n k = rise (at3 (rl far f) n k) (f.2.1 + 1) (0 + 1 - (f.2.1 + 1)).toNat := ev_ris (h.rlt hf) (by omega) n k _ (by omega)
  have ed : pvl (dnR f far) n k = rise (at3 (rl far f) n k) (0 + 1) (f.2.1 + 1 - 1).toNat := ev_ris (h.rlt hf) (by omega) n k _ (by omega)
  rw [eu, ed, at_k, show (rl far f).2.1 = f.2.1 from rfl]
  generalize at3 (rl far f) n k = x
  refine ⟨fun h0 h1 => ?_, fun h0 h1 => ?_, fun h0 h1 => ?_⟩
  · by_cases hb : 0 ≤ f.2.1
    · rw [show (0 + 1 - (f.2.1 + 1)).toNat = 0 by omega]
      show 1 * _ = _
      rw [Int.one_mul, Int.mul_comm]
      have := fc_rise (x := x) (lo := 0) (f.2.1 + 1 - 1).toNat (by omega)
      rw [Int.add_zero] at this
      rw [← this]
      congr 1; omega
    · rw [show (f.2.1 + 1 - 1).toNat = 0 by omega]
      show _ = 1 * _
      rw [Int.one_mul, Int.mul_comm]
      have := fc_rise (x := x) (lo := f.2.1) (0 + 1 - (f.2.1 + 1)).toNat h1
      rw [← this]
      congr 1; omega
  · exact rise_zero (t := -x) (by omega) (by omega) (by omega)
  · exact rise_zero (t := -x) (by omega) (by omega) (by omega)
theorem up_id {p : Pt} (hp : okPt p) {far : Int} (hf : 0 ≤ far ∧ far ≤ 2) {n k : Int} (hn : 0 ≤ n) (hkk : 0 ≤ k) : pvl (upPt p far) n k * (flP p n k far).1 * (flP p n (k + 1) far).2 = pvl (dnPt p far) n k * (flP p n (k + 1) far).1 * (flP p n k far).2 := by
  cases p with
  | ch h l =>
    obtain ⟨q1, q2, q3⟩ := okCh.lo hp
    have hp' : okCh h l := hp
    unfold okCh at hp'
    obtain ⟨b1, b2, b3⟩ := upC_bx hp hf
    obtain ⟨d2, d3⟩ := dnC_bx hp hf
    have evu : pvl (upC h l far) n k = pvl (risR h 1 h.2.1) n k * pvl (upR l far) n k * pvl (upR (dif3 h l) far) n k := by
      unfold upC
      rw [ev_times b2 (upR_bx q2 hf), ev_times b1 (upR_bx q1 hf)]
    have evd : pvl (dnC h l far) n k = pvl (dnR l far) n k * pvl (dnR (dif3 h l) far) n k := by
      unfold dnC
      rw [ev_times d2 (dnR_bx q2 hf), ev_times one_bx (dnR_bx q1 hf), ev_one, Int.one_mul]
    have hH : 0 ≤ at3 h n k := by
      have a1 := Int.mul_nonneg (show 0 ≤ h.1 by omega) hn
      have a2 := Int.mul_nonneg (show 0 ≤ h.2.1 by omega) hkk
      unfold at3; omega
    have eh : fc (at3 h n (k + 1)) = fc (at3 h n k) * pvl (risR h 1 h.2.1) n k := by
      have e : pvl (risR h 1 h.2.1) n k = rise (at3 h n k) (0 + 1) (h.2.1 + 1 - 1).toNat := ev_ris q3.lt (by omega) n k _ (by omega)
      have := fc_rise (x := at3 h n k) (lo := 0) (h.2.1 + 1 - 1).toNat (by omega)
      rw [Int.add_zero] at this
      rw [e, ← this, at_k]
      congr 1; omega
    obtain ⟨s1, s2, s3⟩ := low_up q1 hf n k
    obtain ⟨t1, t2, t3⟩ := low_up q2 hf n k
    show pvl (upC h l far) n k * (flC h l n k far).1 * (flC h l n (k + 1) far).2 = pvl (dnC h l far) n k * (flC h l n (k + 1) far).1 * (flC h l n k far).2
    rw [evu, evd]
    unfold flC
    by_cases c : at3 (rl far l) n k < 0 ∨ at3 (rl far (dif3 h l)) n k < 0
    · rw [if_pos c]
      by_cases z : at3 (rl far l) n (k + 1) < 0 ∨ at3 (rl far (dif3 h l)) n (k + 1) < 0
      · rw [if_pos z]; simp
      · rw [if_neg z]
        rcases c with c | c
        · rw [s3 c (by omega)]; simp
        · rw [t3 c (by omega)]; simp
    · rw [if_neg c]
      by_cases z : at3 (rl far l) n (k + 1) < 0 ∨ at3 (rl far (dif3 h l)) n (k + 1) < 0
      · rw [if_pos z]
        rcases z with z | z
        · rw [s2 (by omega) z]; simp
        · rw [t2 (by omega) z]; simp
      · rw [if_neg z, eh]
        have u := s1 (by omega) (by omega)
        have v := t1 (by omega) (by omega)
        dsimp only
        generalize fc (at3 h n k) = A at *
        generalize pvl (risR h 1 h.2.1) n k = B at *
        generalize fc (at3 (rl far l) n k) = C at *
        generalize fc (at3 (rl far l) n (k + 1)) = C' at *
        generalize pvl (upR l far) n k = D at *
        generalize pvl (dnR l far) n k = D' at *
        generalize fc (at3 (rl far (dif3 h l)) n k) = E at *
        generalize fc (at3 (rl far (dif3 h l)) n (k + 1)) = E' at *
        generalize pvl (upR (dif3 h l) far) n k = F at *
        generalize pvl (dnR (dif3 h l) far) n k = F' at *
        calc B * D * F * A * (C' * E') = A * B * ((D * C') * (F * E')) := by grind
          _ = A * B * ((D' * C) * (F' * E)) := by rw [u, v]
          _ = D' * F' * (A * B) * (C * E) := by grind
  | wt f =>
    show pvl oneP n k * 1 * 1 = pvl oneP n k * 1 * 1
    rfl
  | pw f =>
    show pvl [((0, 0), f.1)] n k * f.1 ^ k.toNat * f.2 ^ (k + 1).toNat = pvl [((0, 0), f.2)] n k * f.1 ^ (k + 1).toNat * f.2 ^ k.toNat
    rw [ev_num, ev_num, show (k + 1).toNat = k.toNat + 1 by omega, Int.pow_succ, Int.pow_succ]
    grind
  | gr f =>
    show pvl oneP n k * f.1 ^ n.toNat * (f.2 ^ n.toNat * f.2 ^ far.toNat) = pvl oneP n k * f.1 ^ n.toNat * (f.2 ^ n.toNat * f.2 ^ far.toNat)
    rfl
theorem factorial_ok {x : Nat} (hx : x ≤ 4000) : M_factorial [I x] = .ok (I (fct x)) := by
  obtain ⟨y', h1⟩ := for_rng2 (fs := aCons (eC (.int 2)) (aCons (eOp gAddA (eVar 0) (eC (.int 1))) aNil)) (m := 2) (F := sAug 1 gMul (eVar 2)) (r := [.vl false (I x), VI 1, .un]) (a := 2) (b := (x : Int) + 1) (fun j y => [.vl false (I x), VI (fct (j + 1)), y]) (y0 := .un) rfl (by
    rw [aCons_ev, eC_ev, res_ok, aCons_ev, e_add (a := (x : Int)) (b := 1) rfl (eC_ev _)]; rfl) (by omega) (by omega) (fun j y => by simp) (fun j y hj => by
    refine ⟨VI (2 + j), ?_⟩
    have hst : ((fct (j + 1) : Int)) * (2 + (j : Int)) = ((fct (j + 1 + 1) : Nat) : Int) := by
      rw [show fct (j + 1 + 1) = fct (j + 1) * (j + 1 + 1) from rfl, Int.natCast_mul, show (((j + 1 + 1 : Nat)) : Int) = 2 + (j : Int) by omega]
    have ha := aug_mul (i := 1) (f := eVar 2) (r := [.vl false (I x), VI (fct (j + 1)), VI (2 + (j : Int))]) (a := (fct (j + 1) : Int)) (b := 2 + (j : Int)) (w := true) (12 * (j + 1) + 1) 13 rfl rfl (by rw [Int.natAbs_natCast]; exact fct_lt (j + 1) (by omega)) (by omega)
    rw [hst] at ha
    exact ha)
  have hx2 : fct (((x : Int) + 1 - 2).toNat + 1) = fct x := by
    cases x with
    | zero => rfl
    | succ x => rw [show (((x + 1 : Nat) : Int) + 1 - 2).toNat + 1 = x + 1 by omega]
  rw [hx2] at h1
  show runF 3 B_factorial _ = _
  unfold B_factorial
  exact run_ret (seq_go (r' := [.vl false (I x), VI 1, .un]) (set_go (eC_ev _) rfl (by simp [startE])) (seq_go h1 rfl))
theorem fac_ok {x : Int} (h0 : 0 ≤ x) (h : x ≤ 4000) : M_factorial [I x] = .ok (I (fc x)) := by
  have := factorial_ok (x := x.toNat) (by omega)
  rw [Int.toNat_of_nonneg h0] at this
  exact this
theorem fc_lt {x : Int} {m : Nat} (h : x ≤ m) (hm : m ≤ 4000) : (fc x).natAbs < 2 ^ (12 * m + 1) := by
  unfold fc
  rw [Int.natAbs_natCast]
  exact lt_up (fct_lt x.toNat (by omega)) (by omega)
theorem form_ok {f : T3} {n k : Int} {m : Nat} (hm : 0 < m) (hm2 : m ≤ 100000) (h : lt3 m f) (hn : n.natAbs < 2 ^ 40) (hk : k.natAbs < 2 ^ 40) : M_form_value [.fz (t3 f), I n, I k] = .ok (I (at3 f n k)) := by
  show runF 3 B_form_value _ = _
  unfold B_form_value
  exact run_ret (ret_go (e_add (e_add (e_mul (a := f.1) (b := n) m 40 (ix_t 0 (ds := [.int f.1, .int f.2.1, .int f.2.2]) rfl rfl) rfl h.1 hn) (e_mul (a := f.2.1) (b := k) m 40 (ix_t 1 (ds := [.int f.1, .int f.2.1, .int f.2.2]) rfl rfl) rfl h.2.1 hk)) (ix_t 2 (ds := [.int f.1, .int f.2.1, .int f.2.2]) rfl rfl)))
structure Fl (q p : Int × Int) (m : Nat) : Prop where
  b : 1 ≤ q.2
  x : q.1 * p.2 = p.1 * q.2
  t : q.1.natAbs < 2 ^ m
  d : q.2.natAbs < 2 ^ m
theorem ratio_fl {a b : Int} {m : Nat} (hb : b ≠ 0) (h1 : a.natAbs < 2 ^ m) (h2 : b.natAbs < 2 ^ m) : ∃ q, M_ratio [I a, I b] = .ok (.fz (fD q)) ∧ Fl q (a, b) m ∧ gcdI q.1 q.2 = 1 :=
  ⟨(rtop a b, rbot a b), ratio_u hb, ⟨rbot_pos hb, r_cross a b, Nat.lt_of_le_of_lt (rtop_le hb) h1, Nat.lt_of_le_of_lt (rbot_le hb) h2⟩, r_gcd hb⟩
theorem mulb {a n : Int} {c : Int} (ha : -3 ≤ a ∧ a ≤ 6) (hn : 0 ≤ n ∧ n ≤ c) : -3 * c ≤ a * n ∧ a * n ≤ 6 * c := by
  have h1 := Int.mul_le_mul_of_nonneg_right ha.2 hn.1
  have h2 := Int.mul_le_mul_of_nonneg_right ha.1 hn.1
  omega
theorem okLo.at {f : T3} (h : okLo f) {far n k : Int} (hf : 0 ≤ far ∧ far ≤ 2) (hn : 0 ≤ n ∧ n ≤ 40) (hk : 0 ≤ k ∧ k ≤ 40) : at3 (rl far f) n k ≤ 520 ∧ at3 f n k ≤ 520 := by
  have h' := h
  unfold okLo at h'
  have a1 := mulb (a := f.1) (by omega) hn
  have a2 := mulb (a := f.2.1) (by omega) hk
  have hb := mx0_b (a := f.1) (by omega)
  have h3 := mul3 (a := mx0 f.1) hf
  rw [at_rl]
  unfold at3
  omega
theorem cfloor_ok {h l : T3} (hp : okCh h l) {n k far : Int} (hn : 0 ≤ n ∧ n ≤ 40) (hk : 0 ≤ k ∧ k ≤ 40) (hf : 0 ≤ far ∧ far ≤ 2) : ∃ q, M_Choose_floor [.fz (ptE (.ch h l)), I n, I k, I far] = .ok (.fz (fD q)) ∧ Fl q (flC h l n k far) 13000 := by
  obtain ⟨q1, q2, q3⟩ := okCh.lo hp
  have n40 : n.natAbs < 2 ^ 40 := by omega
  have k40 : k.natAbs < 2 ^ 40 := by omega
  let A : S := .vl false (.fz (ptE (.ch h l)))
  let E (b f x : S) : Env := [A, .vl false (I n), .vl false (I k), .vl false (I far), b, f, x]
  have eI : iLst (eMeth [("Choose", M_Choose_raised_lows)] "raised_lows" (eVar 0) (aCons (eVar 3) aNil)) (E (VI 1) .un .un) = .ok [.nw (.fz (t3 (rl far l))), .nw (.fz (t3 (rl far (dif3 h l))))] := rl_its hp hf rfl rfl
  have sF : ∀ (f : T3) (b x : S), okLo f → sSet 6 false (eCall M_form_value (aCons (eVar 5) (aCons (eVar 1) (aCons (eVar 2) aNil)))) (E b (.vl true (.fz (t3 (rl far f)))) x) = .nx (E b (.vl true (.fz (t3 (rl far f)))) (VI (at3 (rl far f) n k))) := fun f b x hl =>
    set_go (call3 (x := .nw (.fz (t3 (rl far f)))) (y := .nw (I n)) (z := .nw (I k)) rfl rfl rfl (form_ok (m := 9) (by omega) (by omega) (hl.rlt hf) n40 k40)) rfl (by simp [E])
  have tF : ∀ (f : T3) (b : S), tOf (eOp gLt (eVar 6) (eC (.int 0))) (E b (.vl true (.fz (t3 (rl far f)))) (VI (at3 (rl far f) n k))) = .ok (decide (at3 (rl far f) n k < 0)) := fun f b => t_lt rfl (eC_ev _)
  have aF : ∀ (f : T3) (d : Int), okLo f → 0 ≤ at3 (rl far f) n k → d.natAbs < 2 ^ 6400 → sAug 4 gMul (eCall M_factorial (aCons (eVar 6) aNil)) (E (VI d) (.vl true (.fz (t3 (rl far f)))) (VI (at3 (rl far f) n k))) = .nx (E (VI (d * fc (at3 (rl far f) n k))) (.vl true (.fz (t3 (rl far f)))) (VI (at3 (rl far f) n k))) := fun f d hl h0 hd => by
    have hb := hl.at hf hn hk
    have ef : eCall M_factorial (aCons (eVar 6) aNil) (E (VI d) (.vl true (.fz (t3 (rl far f)))) (VI (at3 (rl far f) n k))) = .ok (.nw (I (fc (at3 (rl far f) n k)))) := call1 (x := .nw (I (at3 (rl far f) n k))) rfl (fac_ok h0 (by omega))
    exact aug_mul (i := 4) (r := E (VI d) (.vl true (.fz (t3 (rl far f)))) (VI (at3 (rl far f) n k))) (a := d) (w := true) 6400 6400 rfl ef hd (lt_up (fc_lt (m := 520) hb.1 (by omega)) (by omega))
  have st1 : startE 7 [.fz (ptE (.ch h l)), I n, I k, I far] = E .un .un .un := rfl
  have bad : ∀ {F : FS}, F (E (VI 1) .un .un) = .ret (.fz (fD (0, 1))) → B_Choose_floor = sSeq (sSet 4 false (eC (.int 1))) F → flC h l n k far = (0, 1) → ∃ q, M_Choose_floor [.fz (ptE (.ch h l)), I n, I k, I far] = .ok (.fz (fD q)) ∧ Fl q (flC h l n k far) 13000 := fun {F} hF e ef => by
    refine ⟨(0, 1), ?_, ?_⟩
    · show runF 7 B_Choose_floor _ = _
      rw [e]
      exact run_ret (seq_go (r' := E (VI 1) .un .un) (set_go (eC_ev _) rfl (by simp [startE])) hF)
    · rw [ef]
      exact ⟨by decide, by decide, by rw [Int.natAbs_zero]; exact Nat.two_pow_pos _, by exact Nat.one_lt_two_pow (by omega)⟩
  by_cases h1 : at3 (rl far l) n k < 0
  · refine bad (seq_ret (for_go eI (forL_ret (r1 := E (VI 1) (.vl true (.fz (t3 (rl far l)))) .un) rfl (seq_go (sF l _ _ q1) (seq_ret (if_t (by rw [tF, decide_eq_true h1]) (ret_go rfl))))))) rfl ?_
    unfold flC
    rw [if_pos (.inl h1)]
  · have s1 := aF l 1 q1 (by omega) (by exact Nat.one_lt_two_pow (by omega))
    have st1 := seq_go (sF l (VI 1) .un q1) (seq_go (r' := E (VI 1) (.vl true (.fz (t3 (rl far l)))) (VI (at3 (rl far l) n k))) (F := sIf (tOf (eOp gLt (eVar 6) (eC (.int 0)))) (sRet (eTup (aCons (eC (.int 0)) (aCons (eC (.int 1)) aNil)))) sNil) (if_f (by rw [tF, decide_eq_false h1]) rfl) s1)
    rw [Int.one_mul] at st1
    by_cases h2 : at3 (rl far (dif3 h l)) n k < 0
    · refine bad (seq_ret (for_go eI ?_)) rfl ?_
      · refine Eq.trans (forL_cons (r1 := E (VI 1) (.vl true (.fz (t3 (rl far l)))) .un) rfl st1) ?_
        exact forL_ret (r1 := E _ (.vl true (.fz (t3 (rl far (dif3 h l))))) (VI (at3 (rl far l) n k))) rfl (seq_go (sF (dif3 h l) _ _ q2) (seq_ret (if_t (by rw [tF, decide_eq_true h2]) (ret_go rfl))))
      · unfold flC
        rw [if_pos (.inr h2)]
    · have b1 := (q1.at hf hn hk).1
      have b2 := (q2.at hf hn hk).1
      have b3 := (q3.at hf hn hk).2
      have s2 := aF (dif3 h l) (fc (at3 (rl far l) n k)) q2 (by omega) (lt_up (fc_lt (m := 520) b1 (by omega)) (by omega))
      have st2 := seq_go (sF (dif3 h l) (VI (fc (at3 (rl far l) n k))) (VI (at3 (rl far l) n k)) q2) (seq_go (r' := E (VI (fc (at3 (rl far l) n k))) (.vl true (.fz (t3 (rl far (dif3 h l))))) (VI (at3 (rl far (dif3 h l)) n k))) (F := sIf (tOf (eOp gLt (eVar 6) (eC (.int 0)))) (sRet (eTup (aCons (eC (.int 0)) (aCons (eC (.int 1)) aNil)))) sNil) (if_f (by rw [tF, decide_eq_false h2]) rfl) s2)
      have hH : 0 ≤ at3 h n k := by
        have hp' : okCh h l := hp
        unfold okCh at hp'
        have a1 := Int.mul_nonneg (show 0 ≤ h.1 by omega) hn.1
        have a2 := Int.mul_nonneg (show 0 ≤ h.2.1 by omega) hk.1
        unfold at3; omega
      have p1 := fc_pos (at3 (rl far l) n k)
      have p2 := fc_pos (at3 (rl far (dif3 h l)) n k)
      have hd0 : fc (at3 (rl far l) n k) * fc (at3 (rl far (dif3 h l)) n k) ≠ 0 := Int.mul_ne_zero (by omega) (by omega)
      obtain ⟨q, eq, hq, _⟩ := ratio_fl (a := fc (at3 h n k)) (m := 13000) hd0 (lt_up (fc_lt (m := 520) b3 (by omega)) (by omega)) (natAbs_mul_lt (fc_lt (m := 520) b1 (by omega)) (fc_lt (m := 520) b2 (by omega)) (by omega))
      refine ⟨q, ?_, ?_⟩
      · have eX : eCall M_factorial (aCons (eCall M_form_value (aCons (eFld TF_high "high" (eVar 0)) (aCons (eVar 1) (aCons (eVar 2) aNil)))) aNil) (E (VI (fc (at3 (rl far l) n k) * fc (at3 (rl far (dif3 h l)) n k))) (.vl true (.fz (t3 (rl far (dif3 h l))))) (VI (at3 (rl far (dif3 h l)) n k))) = .ok (.nw (I (fc (at3 h n k)))) :=
          call1 (x := .nw (I (at3 h n k))) (call3 (x := .nw (.fz (t3 h))) (y := .nw (I n)) (z := .nw (I k)) (fld_high (h := h) (l := l) rfl) rfl rfl (form_ok (m := 9) (by omega) (by omega) q3.lt n40 k40)) (fac_ok hH (by omega))
        show runF 7 B_Choose_floor _ = _
        unfold B_Choose_floor
        refine run_ret (seq_go (r' := E (VI 1) .un .un) (set_go (eC_ev _) rfl (by simp [startE])) (seq_go (for_go eI (Eq.trans (forL_cons (r1 := E (VI 1) (.vl true (.fz (t3 (rl far l)))) .un) rfl st1) (Eq.trans (forL_cons (r1 := E (VI (fc (at3 (rl far l) n k))) (.vl true (.fz (t3 (rl far (dif3 h l))))) (VI (at3 (rl far l) n k))) rfl st2) forL_nil))) (ret_go ?_)))
        exact call2 (x := .nw (I (fc (at3 h n k)))) (y := .nw (I (fc (at3 (rl far l) n k) * fc (at3 (rl far (dif3 h l)) n k)))) eX rfl eq
      · unfold flC
        rw [if_neg (by omega)]
        exact hq
theorem raised_i {p : Int × Int} {k : Int} (h0 : 0 ≤ k) (hk : k ≤ 1000) (h1 : p.1.natAbs < 2 ^ 70) (h2 : p.2.natAbs < 2 ^ 70) : M_raised [.fz (fD p), I k] = .ok (.fz (fD (p.1 ^ k.toNat, p.2 ^ k.toNat))) := by
  have := raised_ok (p := p) (k := k.toNat) (by omega) h1 h2
  rw [Int.toNat_of_nonneg h0] at this
  exact this
theorem pow_pos2 {f : Int × Int} (h : okFr f) (k : Nat) : 1 ≤ f.2 ^ k := by
  have : 0 < f.2 ^ k := Int.pow_pos (by unfold okFr at h; omega)
  omega
theorem Fl.self {p : Int × Int} {m : Nat} (h : 1 ≤ p.2) (h1 : p.1.natAbs < 2 ^ m) (h2 : p.2.natAbs < 2 ^ m) : Fl p p m := ⟨h, rfl, h1, h2⟩
theorem floor_cls {p : Pt} (hp : okPt p) {n k far : Int} (hn : 0 ≤ n ∧ n ≤ 40) (hk : 0 ≤ k ∧ k ≤ 40) (hf : 0 ≤ far ∧ far ≤ 2) : ∃ M q, List.lookup (clPt p).1 [("Choose", M_Choose_floor), ("Weight", M_Part_floor), ("Power", M_Power_floor), ("Growth", M_Growth_floor)] = some M ∧ M [.fz (ptE p), I n, I k, I far] = .ok (.fz (fD q)) ∧ Fl q (flP p n k far) 13000 := by
  cases p with
  | ch h l =>
    obtain ⟨q, e, hq⟩ := cfloor_ok hp hn hk hf
    exact ⟨M_Choose_floor, q, rfl, e, hq⟩
  | wt f => exact ⟨M_Part_floor, (1, 1), rfl, rfl, Fl.self (by decide) (by exact Nat.one_lt_two_pow (by omega)) (by exact Nat.one_lt_two_pow (by omega))⟩
  | pw f =>
    obtain ⟨q1, q2, q3, q4⟩ := fr_b hp
    refine ⟨M_Power_floor, (f.1 ^ k.toNat, f.2 ^ k.toNat), rfl, ?_, Fl.self (pow_pos2 hp _) (lt_up (pow_lt _ 70 q1 _) (by omega)) (lt_up (pow_lt _ 70 q2 _) (by omega))⟩
    show runF 4 B_Power_floor _ = _
    unfold B_Power_floor
    exact run_ret (ret_go (call2 (x := .nw (.fz (fD f))) (y := .nw (I k)) (fld_frac (p := .pw f) (.inl rfl) rfl) rfl (raised_i hk.1 (by omega) q1 q2)))
  | gr f =>
    obtain ⟨q1, q2, q3, q4⟩ := fr_b hp
    have a1 := pow_lt f.1 70 q1 n.toNat
    have a2 := pow_lt f.2 70 q2 n.toNat
    have a3 := pow_lt f.2 70 q2 far.toNat
    have hb0 : f.2 ^ n.toNat * f.2 ^ far.toNat ≠ 0 := Int.mul_ne_zero (Int.pow_ne_zero q4) (Int.pow_ne_zero q4)
    obtain ⟨q, e, hq, _⟩ := ratio_fl (a := f.1 ^ n.toNat) (b := f.2 ^ n.toNat * f.2 ^ far.toNat) (m := 13000) hb0 (lt_up a1 (by omega)) (natAbs_mul_lt a2 a3 (by omega))
    refine ⟨M_Growth_floor, q, rfl, ?_, hq⟩
    let R (x y : S) : Env := [.vl false (.fz (ptE (.gr f))), .vl false (I n), .vl false (I k), .vl false (I far), x, y]
    have c1 : ∀ x y, eCall M_raised (aCons (eFld TF_fraction "fraction" (eVar 0)) (aCons (eVar 1) aNil)) (R x y) = .ok (.nw (.fz (fD (f.1 ^ n.toNat, f.2 ^ n.toNat)))) := fun x y => call2 (x := .nw (.fz (fD f))) (y := .nw (I n)) (fld_frac (p := .gr f) (.inr rfl) rfl) rfl (raised_i hn.1 (by omega) q1 q2)
    have c2 : ∀ x y, eCall M_raised (aCons (eFld TF_fraction "fraction" (eVar 0)) (aCons (eVar 3) aNil)) (R x y) = .ok (.nw (.fz (fD (f.1 ^ far.toNat, f.2 ^ far.toNat)))) := fun x y => call2 (x := .nw (.fz (fD f))) (y := .nw (I far)) (fld_frac (p := .gr f) (.inr rfl) rfl) rfl (raised_i hf.1 (by omega) q1 q2)
    show runF 6 B_Growth_floor _ = _
    unfold B_Growth_floor
    refine run_ret (seq_go (r' := R (VI (f.1 ^ n.toNat)) (VI (f.2 ^ n.toNat))) (asgT_go (c1 .un .un) rfl) (ret_go (call2 (x := .nw (I (f.1 ^ n.toNat))) (y := .nw (I (f.2 ^ n.toNat * f.2 ^ far.toNat))) rfl (e_mul (a := f.2 ^ n.toNat) (70 * n.toNat + 1) (70 * far.toNat + 1) rfl (e_tup1 (c2 _ _)) a2 a3) e)))
theorem worth_cls {p : Pt} (hp : okPt p) {n k : Int} (hn : 0 ≤ n ∧ n ≤ 40) (hk : 0 ≤ k ∧ k ≤ 40) : ∃ M q, List.lookup (clPt p).1 [("Choose", M_Choose_worth), ("Weight", M_Weight_worth), ("Power", M_Power_worth), ("Growth", M_Growth_worth)] = some M ∧ M [.fz (ptE p), I n, I k] = .ok (.fz (fD q)) ∧ Fl q (wrP p n k) 13000 := by
  cases p with
  | ch h l =>
    obtain ⟨q, e, hq⟩ := cfloor_ok hp hn hk (far := 0) (by omega)
    refine ⟨M_Choose_worth, q, rfl, ?_, hq⟩
    show runF 3 B_Choose_worth _ = _
    unfold B_Choose_worth
    exact run_ret (ret_go (meth_ok (x := .nw (.fz (ptE (.ch h l)))) (os := [I n, I k, I 0]) rfl (cls_pt (.ch h l)) (by decide) rfl rfl e))
  | wt f =>
    have hf : lt3 200 f := hp
    have l1 : (at3 f n k).natAbs < 2 ^ 13000 := by
      have m1 := natAbs_mul_lt (n := 40) hf.1 (show n.natAbs < 2 ^ 40 by omega) (Nat.le_refl _)
      have m2 := natAbs_mul_lt (n := 40) hf.2.1 (show k.natAbs < 2 ^ 40 by omega) (Nat.le_refl _)
      exact natAbs_add_lt (m := 250) (natAbs_add_lt (m := 240) m1 m2 (by omega)) (lt_up hf.2.2 (by omega)) (by omega)
    refine ⟨M_Weight_worth, (at3 f n k, 1), rfl, ?_, Fl.self (Int.le_refl 1) l1 (by exact Nat.one_lt_two_pow (by omega))⟩
    show runF 3 B_Weight_worth _ = _
    unfold B_Weight_worth
    exact run_ret (ret_go (e_tup (call3 (x := .nw (.fz (t3 f))) (y := .nw (I n)) (z := .nw (I k)) (fld_form rfl) rfl rfl (form_ok (m := 200) (by omega) (by omega) hf (by omega) (by omega))) (eC_ev _)))
  | pw f =>
    obtain ⟨q1, q2, q3, q4⟩ := fr_b hp
    refine ⟨M_Power_worth, (f.1 ^ k.toNat, f.2 ^ k.toNat), rfl, ?_, Fl.self (pow_pos2 hp _) (lt_up (pow_lt _ 70 q1 _) (by omega)) (lt_up (pow_lt _ 70 q2 _) (by omega))⟩
    show runF 3 B_Power_worth _ = _
    unfold B_Power_worth
    exact run_ret (ret_go (call2 (x := .nw (.fz (fD f))) (y := .nw (I k)) (fld_frac (p := .pw f) (.inl rfl) rfl) rfl (raised_i hk.1 (by omega) q1 q2)))
  | gr f =>
    obtain ⟨q1, q2, q3, q4⟩ := fr_b hp
    refine ⟨M_Growth_worth, (f.1 ^ n.toNat, f.2 ^ n.toNat), rfl, ?_, Fl.self (pow_pos2 hp _) (lt_up (pow_lt _ 70 q1 _) (by omega)) (lt_up (pow_lt _ 70 q2 _) (by omega))⟩
    show runF 3 B_Growth_worth _ = _
    unfold B_Growth_worth
    exact run_ret (ret_go (call2 (x := .nw (.fz (fD f))) (y := .nw (I n)) (fld_frac (p := .gr f) (.inr rfl) rfl) rfl (raised_i hn.1 (by omega) q1 q2)))
def prP (g : Pt → Int × Int) (P : Int × Int) (ps : List Pt) : Int × Int := ps.foldl (fun P p => (P.1 * (g p).1, P.2 * (g p).2)) P
abbrev prF (g : Pt → Int × Int) (ps : List Pt) : Int × Int := prP g (1, 1) ps
theorem prF_snoc (g : Pt → Int × Int) (ps : List Pt) (p : Pt) : prF g (ps ++ [p]) = ((prF g ps).1 * (g p).1, (prF g ps).2 * (g p).2) := by
  unfold prF prP
  rw [List.foldl_append]; rfl
structure Fg (q p : Int × Int) (m : Nat) : Prop where
  f : Fl q p m
  g : gcdI q.1 q.2 = 1
theorem mult_fl {q p r s : Int × Int} {m : Nat} (h : Fl q p m) (h2 : Fl r s 13000) (hm : 0 < m) (hm2 : m ≤ 200000) : ∃ q', M_multiplied [.fz (fD q), .fz (fD r)] = .ok (.fz (fD q')) ∧ Fg q' (p.1 * s.1, p.2 * s.2) (m + 13000) := by
  have hb0 : q.2 * r.2 ≠ 0 := Int.mul_ne_zero (by have := h.b; omega) (by have := h2.b; omega)
  obtain ⟨q', e, hq, hg⟩ := ratio_fl (a := q.1 * r.1) (b := q.2 * r.2) (m := m + 13000) hb0 (natAbs_mul_lt h.t h2.t (Nat.le_refl _)) (natAbs_mul_lt h.d h2.d (Nat.le_refl _))
  refine ⟨q', ?_, ⟨hq.b, ?_, hq.t, hq.d⟩, hg⟩
  · show runF 2 B_multiplied _ = _
    unfold B_multiplied
    let R : Env := [.vl false (.fz (fD q)), .vl false (.fz (fD r))]
    have i0 : eIx (eVar 0) (eC (.int 0)) R = .ok (.nw (I q.1)) := ix_t 0 (ds := [.int q.1, .int q.2]) rfl rfl
    have i1 : eIx (eVar 0) (eC (.int 1)) R = .ok (.nw (I q.2)) := ix_t 1 (ds := [.int q.1, .int q.2]) rfl rfl
    have j0 : eIx (eVar 1) (eC (.int 0)) R = .ok (.nw (I r.1)) := ix_t 0 (ds := [.int r.1, .int r.2]) rfl rfl
    have j1 : eIx (eVar 1) (eC (.int 1)) R = .ok (.nw (I r.2)) := ix_t 1 (ds := [.int r.1, .int r.2]) rfl rfl
    exact run_ret (ret_go (call2 (e_mul m 13000 i0 j0 h.t h2.t) (e_mul m 13000 i1 j1 h.d h2.d) e))
  · have x1 := h.x
    have x2 := h2.x
    have x3 := hq.x
    dsimp only at x3 ⊢
    have hz := hb0
    have : (q'.1 * (p.2 * s.2)) * (q.2 * r.2) = (p.1 * s.1 * q'.2) * (q.2 * r.2) := by
      calc (q'.1 * (p.2 * s.2)) * (q.2 * r.2) = (q'.1 * (q.2 * r.2)) * (p.2 * s.2) := by grind
        _ = (q.1 * r.1 * q'.2) * (p.2 * s.2) := by rw [x3]
        _ = (q.1 * p.2) * (r.1 * s.2) * q'.2 := by grind
        _ = (p.1 * q.2) * (s.1 * r.2) * q'.2 := by rw [x1, x2]
        _ = (p.1 * s.1 * q'.2) * (q.2 * r.2) := by grind
    exact Int.eq_of_mul_eq_mul_right hz this
theorem fld_made {i : Nat} {r : Env} {ps : List Pt} (hi : r[i]? = some (.vl false (.fz (tmE ps)))) : eFld TF_made "made" (eVar i) r = .ok (.nw (.fz (.lst (ps.map ptE)))) := by
  have e : eVar i r = .ok (.nw (.fz (tmE ps))) := by unfold eVar; rw [hi]; rfl
  rw [eFld, e, res_ok]
  simp [fldR, tmE, TF_made, List.lookup]
theorem tfloor_ok {ps : List Pt} (hp : ∀ p ∈ ps, okPt p) (hl : ps.length ≤ 6) {n k far : Int} (hn : 0 ≤ n ∧ n ≤ 40) (hk : 0 ≤ k ∧ k ≤ 40) (hf : 0 ≤ far ∧ far ≤ 2) : ∃ q, M_Term_floor [.fz (tmE ps), I n, I k, I far] = .ok (.fz (fD q)) ∧ Fg q (prF (fun p => flP p n k far) ps) (1 + 13000 * ps.length) := by
  let E (q : Int × Int) (y : S) : Env := [.vl false (.fz (tmE ps)), .vl false (I n), .vl false (I k), .vl false (I far), .vl true (.fz (fD q)), y]
  have hi : iLst (eFld TF_made "made" (eVar 0)) (E (1, 1) .un) = .ok (ps.map fun p => .nw (.fz (ptE p))) := by
    rw [iLst_ds (fld_made rfl), List.map_map]; rfl
  obtain ⟨r', hw, q, y, er, hq⟩ := forL_spl (fg := gN 5) (F := sSet 4 false (eCall M_multiplied (aCons (eVar 4) (aCons (eMeth [("Choose", M_Choose_floor), ("Weight", M_Part_floor), ("Power", M_Power_floor), ("Growth", M_Growth_floor)] "floor" (eVar 5) (aCons (eVar 1) (aCons (eVar 2) (aCons (eVar 3) aNil)))) aNil))))
    (g := fun p => .nw (.fz (ptE p))) (P := fun d r => ∃ q y, r = E q y ∧ Fg q (prF (fun p => flP p n k far) d) (1 + 13000 * d.length)) ps [] (E (1, 1) .un) ⟨(1, 1), .un, rfl, ⟨⟨by decide, rfl, by decide, by decide⟩, rfl⟩⟩ (fun d p e r he ⟨q, y, hr, hq⟩ => by
      subst hr
      rw [List.nil_append] at he
      have hpm : p ∈ ps := by rw [← he]; simp
      have hdl : d.length < 6 := by
        have := congrArg List.length he
        rw [List.length_append, List.length_cons] at this
        omega
      obtain ⟨M, s, hM, eM, hs⟩ := floor_cls (hp p hpm) hn hk hf
      obtain ⟨q', eq, hq'⟩ := mult_fl hq.f hs (by omega) (by omega)
      let P1 : S := .vl true (.fz (ptE p))
      refine ⟨E q P1, E q' P1, by simp [E, P1], set_go (x := .nw (.fz (fD q'))) (call2 (x := .nw (.fz (fD q))) (y := .nw (.fz (fD s))) rfl (meth_ok (x := .nw (.fz (ptE p))) (os := [I n, I k, I far]) rfl (cls_pt p) (by cases p <;> simp only [clPt] <;> decide) hM rfl eM) eq) rfl (by simp [E]), q', P1, rfl, ?_⟩
      rw [prF_snoc, List.length_append, List.length_singleton, show 1 + 13000 * (d.length + 1) = 1 + 13000 * d.length + 13000 by omega]
      exact hq')
  subst er
  refine ⟨q, ?_, hq⟩
  show runF 6 B_Term_floor _ = _
  unfold B_Term_floor
  exact run_ret (seq_go (r' := E (1, 1) .un) (set_go (x := .nw (.fz (fD (1, 1)))) rfl rfl (by simp [startE])) (seq_go (for_go hi hw) rfl))
theorem tworth_ok {ps : List Pt} (hp : ∀ p ∈ ps, okPt p) (hl : ps.length ≤ 6) {n k : Int} (hn : 0 ≤ n ∧ n ≤ 40) (hk : 0 ≤ k ∧ k ≤ 40) : ∃ q, M_Term_worth [.fz (tmE ps), I n, I k] = .ok (.fz (fD q)) ∧ Fg q (prF (fun p => wrP p n k) ps) (1 + 13000 * ps.length) := by
  let E (q : Int × Int) (y : S) : Env := [.vl false (.fz (tmE ps)), .vl false (I n), .vl false (I k), .vl true (.fz (fD q)), y]
  have hi : iLst (eFld TF_made "made" (eVar 0)) (E (1, 1) .un) = .ok (ps.map fun p => .nw (.fz (ptE p))) := by
    rw [iLst_ds (fld_made rfl), List.map_map]; rfl
  obtain ⟨r', hw, q, y, er, hq⟩ := forL_spl (fg := gN 4) (F := sSet 3 false (eCall M_multiplied (aCons (eVar 3) (aCons (eMeth [("Choose", M_Choose_worth), ("Weight", M_Weight_worth), ("Power", M_Power_worth), ("Growth", M_Growth_worth)] "worth" (eVar 4) (aCons (eVar 1) (aCons (eVar 2) aNil))) aNil))))
    (g := fun p => .nw (.fz (ptE p))) (P := fun d r => ∃ q y, r = E q y ∧ Fg q (prF (fun p => wrP p n k) d) (1 + 13000 * d.length)) ps [] (E (1, 1) .un) ⟨(1, 1), .un, rfl, ⟨⟨by decide, rfl, by decide, by decide⟩, rfl⟩⟩ (fun d p e r he ⟨q, y, hr, hq⟩ => by
      subst hr
      rw [List.nil_append] at he
      have hpm : p ∈ ps := by rw [← he]; simp
      have hdl : d.length < 6 := by
        have := congrArg List.length he
        rw [List.length_append, List.length_cons] at this
        omega
      obtain ⟨M, s, hM, eM, hs⟩ := worth_cls (hp p hpm) hn hk
      obtain ⟨q', eq, hq'⟩ := mult_fl hq.f hs (by omega) (by omega)
      let P1 : S := .vl true (.fz (ptE p))
      refine ⟨E q P1, E q' P1, by simp [E, P1], set_go (x := .nw (.fz (fD q'))) (call2 (x := .nw (.fz (fD q))) (y := .nw (.fz (fD s))) rfl (meth_ok (x := .nw (.fz (ptE p))) (os := [I n, I k]) rfl (cls_pt p) (by cases p <;> simp only [clPt] <;> decide) hM rfl eM) eq) rfl (by simp [E]), q', P1, rfl, ?_⟩
      rw [prF_snoc, List.length_append, List.length_singleton, show 1 + 13000 * (d.length + 1) = 1 + 13000 * d.length + 13000 by omega]
      exact hq')
  subst er
  refine ⟨q, ?_, hq⟩
  show runF 5 B_Term_worth _ = _
  unfold B_Term_worth
  exact run_ret (seq_go (r' := E (1, 1) .un) (set_go (x := .nw (.fz (fD (1, 1)))) rfl rfl (by simp [startE])) (seq_go (for_go hi hw) rfl))
def mx2 (a b : Int) : Int := if b > a then b else a
theorem max2_ev {f g : FE} {r : Env} {x y : Int} (h : f r = .ok (.nw (I x))) (h2 : g r = .ok (.nw (I y))) : eB gMax2 (aCons f (aCons g aNil)) r = .ok (.nw (I (mx2 x y))) := by
  simp only [eB_ev, aCons_ev, h, h2, res_ok, aNil_ev, ra_nw, er_fz]
  exact gMax_ev x y
theorem fordk_go {i m : Nat} {F : FS} {P : PP} {r : Env} {w : Bool} {o : O} (hr : r[i]? = some (.vl w o)) (hd : DL.dI w o = some (ent P)) (Iv : PP → Env → Prop) (h0 : Iv [] r) (h : ∀ d x e r, d ++ x :: e = P → Iv d r → m < r.length ∧ ∃ r', F (r.set m (.tq (kk x.1))) = .nx r' ∧ Iv (d ++ [x]) r') : ∃ r', sForDK i m F r = .nx r' ∧ Iv P r' := by
  have go : ∀ (rest done : PP) (r : Env), done ++ rest = P → Iv done r → ∃ r', forDk m F (ent rest) r = .nx r' ∧ Iv P r' := fun rest => by
    induction rest with
    | nil => intro done r e p; rw [List.append_nil] at e; subst e; exact ⟨r, rfl, p⟩
    | cons x rest ih =>
      intro done r e p
      obtain ⟨hm, r1, e1, p1⟩ := h done x rest r e p
      obtain ⟨r2, e2, p2⟩ := ih (done ++ [x]) r1 (by simpa using e) p1
      refine ⟨r2, ?_, p2⟩
      show (if m < r.length then (match F (r.set m (.tq (kk x.1))) with | .nx r' => forDk m F (ent rest) r' | .ct r' => forDk m F (ent rest) r' | .bk r' => .nx r' | .ret o => .ret o | _ => .bad) else .bad) = _
      rw [if_pos hm, e1]
      exact e2
  obtain ⟨r', e, p⟩ := go P [] r rfl h0
  refine ⟨r', ?_, p⟩
  unfold sForDK sWalkI
  rw [hr]
  dsimp only
  rw [hd]
  exact e
def amx (w : Bool) (P : PP) : Int := maxL 0 (P.map fun x => prj w x.1)
theorem amx_snoc (w : Bool) (d : PP) (x : PK × Int) : amx w (d ++ [x]) = mx2 (amx w d) (prj w x.1) := by
  unfold amx maxL
  rw [List.map_append, List.foldl_append]; rfl
theorem amx_ge (w : Bool) (P : PP) : 0 ≤ amx w P ∧ ∀ x ∈ P, prj w x.1 ≤ amx w P :=
  ⟨(maxL_ge _ _).1, fun x hx => (maxL_ge _ _).2 _ (List.mem_map.mpr ⟨x, hx, rfl⟩)⟩
theorem amx_le {w : Bool} {P : PP} {a : Nat} (h : ∀ x ∈ P, prj w x.1 ≤ a) : amx w P ≤ a := by
  rcases List.mem_cons.mp (maxL_mem (P.map fun x => prj w x.1) 0) with e | e
  · show maxL 0 _ ≤ _
    rw [e]; omega
  · obtain ⟨x, hx, e2⟩ := List.mem_map.mp e
    show maxL 0 _ ≤ _
    rw [← e2]; exact h x hx
def pwL (x : Int) (j : Nat) : List Int := (List.range (j + 1)).map fun i => x ^ i
theorem pwL_len (x : Int) (j : Nat) : (pwL x j).length = j + 1 := by simp [pwL]
theorem pwL_snoc (x : Int) (j : Nat) : pwL x (j + 1) = pwL x j ++ [x ^ (j + 1)] := by
  unfold pwL
  rw [List.range_succ (n := j + 1), List.map_append]; rfl
theorem ix_own2 {i : Nat} {r : Env} {LL : List (List Int)} {g1 g2 : FE} {j t : Nat} {a b v : Int} {l : List Int} (h : r[i]? = some (.vl true (.ls (LL.map nO)))) (h1 : g1 r = .ok (.nw (I a))) (h2 : g2 r = .ok (.nw (I b))) (ha : a = j) (hj : LL[j]? = some l) (hb : ixN l.length b = some t) (ht : l[t]? = some v) : eIx (eIx (eVar i) g1) g2 r = .ok (.nw (I v)) := by
  have hjl := (List.getElem?_eq_some_iff.mp hj).1
  have e1 : eIx (eVar i) g1 r = .ok (.vw (nO l)) := by
    have v0 : eVar i r = .ok (.vw (.ls (LL.map nO))) := by unfold eVar; rw [h]; rfl
    have ei : ixO (.ls (LL.map nO)) a = some (nO l) := by
      show atI (LL.map nO) a = _
      unfold atI
      rw [ha, List.length_map, ixN_nat hjl]
      show (LL.map nO)[j]? = _
      rw [List.getElem?_map, hj]; rfl
    simp only [eIx, v0, h1, res_ok, ra_nw, er_fz, ei]; rfl
  have ei : ixO (nO l) b = some (I v) := by
    show atI (iL l) b = _
    unfold atI
    rw [iL_length, hb]
    show (iL l)[t]? = _
    unfold iL
    rw [List.getElem?_map, ht]; rfl
  rw [eIx, e1]
  simp only [h2, res_ok, ra_nw, er_fz, ei]
  rfl
theorem pair_at {o : O} {P : PP} {a b m : Nat} (hq : IsQ o P) (hP : Bx P a b m) (ha : a ≤ 200) (hb : b ≤ 200) (hm : m ≤ 20000) (hm0 : 0 < m) {n k : Int} (hn : n.natAbs < 2 ^ 40) (hk : k.natAbs < 2 ^ 40) : M__law_pair_at [o, I n, I k] = .ok (I (pvl P n k)) := by
  let A : S := .vl false o
  let R (x3 x4 x5 x6 x7 x8 : S) : Env := [A, .vl false (I n), .vl false (I k), x3, x4, x5, x6, x7, x8]
  let M2 (d : PP) : S := .vl true (lO [amx true d, amx false d])
  obtain ⟨r1, e1, y4, er1⟩ := fordk_go (i := 0) (m := 4) (F := sSet 3 false (eLst (aCons (eB gMax2 (aCons (eIx (eVar 3) (eC (.int 0))) (aCons (eIx (eVar 4) (eC (.int 0))) aNil))) (aCons (eB gMax2 (aCons (eIx (eVar 3) (eC (.int 1))) (aCons (eIx (eVar 4) (eC (.int 1))) aNil))) aNil)))) (P := P) (r := R (M2 []) .un .un .un .un .un) (w := false) (o := o) rfl hq.dI (fun d r => ∃ y, r = R (M2 d) y .un .un .un .un) ⟨.un, rfl⟩ (fun d x e r he ⟨y, hr⟩ => by
    subst hr
    refine ⟨by simp [R], R (M2 (d ++ [x])) (.tq (kk x.1)) .un .un .un .un, ?_, .tq (kk x.1), rfl⟩
    let R' : Env := R (M2 d) (.tq (kk x.1)) .un .un .un .un
    have i0 : eIx (eVar 3) (eC (.int 0)) R' = .ok (.nw (I (amx true d))) := rfl
    have i1 : eIx (eVar 3) (eC (.int 1)) R' = .ok (.nw (I (amx false d))) := rfl
    have j0 : eIx (eVar 4) (eC (.int 0)) R' = .ok (.nw (I x.1.1)) := rfl
    have j1 : eIx (eVar 4) (eC (.int 1)) R' = .ok (.nw (I x.1.2)) := rfl
    have m0 := max2_ev i0 j0
    have m1 := max2_ev i1 j1
    refine set_go (x := .nw (nO [amx true (d ++ [x]), amx false (d ++ [x])])) ?_ rfl (by simp [R])
    rw [amx_snoc, amx_snoc]
    show eLst _ R' = _
    simp only [eLst, aCons_ev, m0, m1, res_ok, aNil_ev, ra_nw, er_fz]; rfl)
  subst er1
  obtain ⟨ga, gaP⟩ := amx_ge true P
  obtain ⟨gb, gbP⟩ := amx_ge false P
  have la : amx true P ≤ a := amx_le fun x hx => (hP.k x hx).1.2
  have lb : amx false P ≤ b := amx_le fun x hx => (hP.k x hx).2.2
  obtain ⟨ja, hja⟩ : ∃ j : Nat, amx true P = j := ⟨(amx true P).toNat, by omega⟩
  obtain ⟨jb, hjb⟩ : ∃ j : Nat, amx false P = j := ⟨(amx false P).toNat, by omega⟩
  let LS (u v : Nat) : S := .vl true (.ls ([pwL n u, pwL k v].map nO))
  have pl : ∀ (x : Int) (j : Nat), x.natAbs < 2 ^ 40 → j ≤ 200 → (x ^ j).natAbs < 2 ^ 8001 := fun x j hx hj => by
    have : ∀ j : Nat, (x ^ j).natAbs < 2 ^ (40 * j + 1) := fun j => by
      induction j with
      | zero => simp
      | succ j ih =>
        rw [Int.pow_succ]
        exact natAbs_mul_lt ih hx (by rw [Nat.mul_add]; omega)
    exact lt_up (this j) (by omega)
  have lastx : ∀ (x : Int) (j : Nat), ixN (pwL x j).length (-1) = some j ∧ (pwL x j)[j]? = some (x ^ j) := fun x j => by
    rw [pwL_len, ixN_last (by omega)]
    exact ⟨rfl, by simp [pwL]⟩
  have er2 := rng_ok (fs := aCons (eIx (eVar 3) (eC (.int 0))) aNil) (r := R (M2 P) y4 (LS 0 0) .un .un .un) (n := ja) (by
    have i0 : eIx (eVar 3) (eC (.int 0)) (R (M2 P) y4 (LS 0 0) .un .un .un) = .ok (.nw (I (amx true P))) := rfl
    rw [hja] at i0
    simp only [aCons_ev, i0, res_ok, aNil_ev]; rfl) (by omega)
  have get_i : ∀ {N i : Nat} {z : DL.R}, ((List.range N).map fun (j : Nat) => intR (j : Int))[i]? = some z → i < N ∧ z = intR (i : Int) := fun {N i z} hz => by
    rw [List.getElem?_map] at hz
    cases hj : (List.range N)[i]? with
    | none => rw [hj] at hz; cases hz
    | some j =>
      rw [hj] at hz
      obtain ⟨h1, h2⟩ := List.getElem?_eq_some_iff.mp hj
      simp at h1 h2
      subst h2
      exact ⟨by omega, (Option.some.inj hz).symm⟩
  obtain ⟨r2, e2, hr2⟩ := forL_inv (fg := gN 6) (F := sApp1 5 (eC (.int 0)) (eOp gMulA (eIx (eIx (eVar 5) (eC (.int 0))) (eUn gNeg (eC (.int 1)))) (eVar 1))) (its := (List.range ja).map fun (j : Nat) => intR (j : Int)) (r := R (M2 P) y4 (LS 0 0) .un .un .un)
    (fun i r => i ≤ ja ∧ ∃ y, r = R (M2 P) y4 (LS i 0) y .un .un) ⟨by omega, .un, rfl⟩ (fun i z r hz ⟨hi, y, hr⟩ => by
      subst hr
      obtain ⟨hi2, rfl⟩ := get_i hz
      let R' : Env := R (M2 P) y4 (LS i 0) (VI (i : Int)) .un .un
      have ix := ix_own2 (i := 5) (r := R') (LL := [pwL n i, pwL k 0]) (g1 := eC (.int 0)) (g2 := eUn gNeg (eC (.int 1))) (j := 0) (a := 0) (b := -1) rfl (eC_ev _) (e_neg (eC_ev _)) rfl rfl (lastx n i).1 (lastx n i).2
      refine ⟨R', _, by simp [R, R', intR], app1_go (i := 5) (j := 0) (k := 0) (os := [pwL n i, pwL k 0].map nO) (ps := iL (pwL n i)) (d := .int (n ^ i * n)) (x := .nw (I (n ^ i * n))) rfl (eC_ev _) rfl rfl (allFz_iL _) (e_mul (b := n) 8001 40 ix rfl (pl n i hn (by omega)) hn) rfl (by rw [iL_length, pwL_len]; omega), by omega, VI (i : Int), ?_⟩
      show R'.set 5 _ = R (M2 P) y4 (LS (i + 1) 0) (VI (i : Int)) .un .un
      have : (.vl true (.ls (([pwL n i, pwL k 0].map nO).set 0 (.ls (iL (pwL n i) ++ [.fz (.int (n ^ i * n))])))) : S) = LS (i + 1) 0 := by
        show S.vl true (O.ls [O.ls (iL (pwL n i) ++ [O.fz (D.int (n ^ i * n))]), nO (pwL k 0)]) = S.vl true (O.ls [nO (pwL n (i + 1)), nO (pwL k 0)])
        rw [pwL_snoc, Int.pow_succ]
        simp [iL]
      rw [this]; rfl)
  rw [List.length_map, List.length_range] at hr2
  obtain ⟨_, y6, hr2⟩ := hr2
  subst hr2
  have er3 := rng_ok (fs := aCons (eIx (eVar 3) (eC (.int 1))) aNil) (r := R (M2 P) y4 (LS ja 0) y6 .un .un) (n := jb) (by
    have i0 : eIx (eVar 3) (eC (.int 1)) (R (M2 P) y4 (LS ja 0) y6 .un .un) = .ok (.nw (I (amx false P))) := rfl
    rw [hjb] at i0
    simp only [aCons_ev, i0, res_ok, aNil_ev]; rfl) (by omega)
  obtain ⟨r3, e3, hr3⟩ := forL_inv (fg := gN 6) (F := sApp1 5 (eC (.int 1)) (eOp gMulA (eIx (eIx (eVar 5) (eC (.int 1))) (eUn gNeg (eC (.int 1)))) (eVar 2))) (its := (List.range jb).map fun (j : Nat) => intR (j : Int)) (r := R (M2 P) y4 (LS ja 0) y6 .un .un)
    (fun i r => i ≤ jb ∧ ∃ y, r = R (M2 P) y4 (LS ja i) y .un .un) ⟨by omega, y6, rfl⟩ (fun i z r hz ⟨hi, y, hr⟩ => by
      subst hr
      obtain ⟨hi2, rfl⟩ := get_i hz
      let R' : Env := R (M2 P) y4 (LS ja i) (VI (i : Int)) .un .un
      have ix := ix_own2 (i := 5) (r := R') (LL := [pwL n ja, pwL k i]) (g1 := eC (.int 1)) (g2 := eUn gNeg (eC (.int 1))) (j := 1) (a := 1) (b := -1) rfl (eC_ev _) (e_neg (eC_ev _)) rfl rfl (lastx k i).1 (lastx k i).2
      refine ⟨R', _, by simp [R, R', intR], app1_go (i := 5) (j := 1) (k := 1) (os := [pwL n ja, pwL k i].map nO) (ps := iL (pwL k i)) (d := .int (k ^ i * k)) (x := .nw (I (k ^ i * k))) rfl (eC_ev _) rfl rfl (allFz_iL _) (e_mul (b := k) 8001 40 ix rfl (pl k i hk (by omega)) hk) rfl (by rw [iL_length, pwL_len]; omega), by omega, VI (i : Int), ?_⟩
      show R'.set 5 _ = R (M2 P) y4 (LS ja (i + 1)) (VI (i : Int)) .un .un
      have : (.vl true (.ls (([pwL n ja, pwL k i].map nO).set 1 (.ls (iL (pwL k i) ++ [.fz (.int (k ^ i * k))])))) : S) = LS ja (i + 1) := by
        show S.vl true (O.ls [nO (pwL n ja), O.ls (iL (pwL k i) ++ [O.fz (D.int (k ^ i * k))])]) = S.vl true (O.ls [nO (pwL n ja), nO (pwL k (i + 1))])
        rw [pwL_snoc, Int.pow_succ]
        simp [iL]
      rw [this]; rfl)
  rw [List.length_map, List.length_range] at hr3
  obtain ⟨_, y6', hr3⟩ := hr3
  subst hr3
  obtain ⟨r4, e4, z4, z8, hr4⟩ := fordi_go (i := 0) (m := 4) (n := 8) (F := sSet 7 false (eOp gAddA (eVar 7) (eOp gMulA (eOp gMulA (eVar 8) (eIx (eIx (eVar 5) (eC (.int 0))) (eIx (eVar 4) (eC (.int 0))))) (eIx (eIx (eVar 5) (eC (.int 1))) (eIx (eVar 4) (eC (.int 1))))))) (P := P) (r := R (M2 P) y4 (LS ja jb) y6' (VI 0) .un) (w := false) (o := o) rfl hq.dI (fun d r => ∃ y z, r = R (M2 P) y (LS ja jb) y6' (VI (pvl d n k)) z) ⟨y4, .un, rfl⟩ (fun d x e r he ⟨y, z, hr⟩ => by
    subst hr
    have hx : x ∈ P := by rw [← he]; simp
    have kx := hP.k x hx
    have px := gaP x hx
    have qx := gbP x hx
    obtain ⟨u, hu⟩ : ∃ u : Nat, x.1.1 = u := ⟨x.1.1.toNat, by omega⟩
    obtain ⟨v, hv⟩ : ∃ v : Nat, x.1.2 = v := ⟨x.1.2.toNat, by omega⟩
    have hu2 : u ≤ ja := by
      have : x.1.1 ≤ amx true P := px
      omega
    have hv2 : v ≤ jb := by
      have : x.1.2 ≤ amx false P := qx
      omega
    refine ⟨by simp [R], by simp [R], R (M2 P) (.tq (kk x.1)) (LS ja jb) y6' (VI (pvl (d ++ [x]) n k)) (VI x.2), ?_, .tq (kk x.1), VI x.2, rfl⟩
    let R' : Env := R (M2 P) (.tq (kk x.1)) (LS ja jb) y6' (VI (pvl d n k)) (VI x.2)
    have j0 : eIx (eVar 4) (eC (.int 0)) R' = .ok (.nw (I x.1.1)) := rfl
    have j1 : eIx (eVar 4) (eC (.int 1)) R' = .ok (.nw (I x.1.2)) := rfl
    have a0 := ix_own2 (i := 5) (r := R') (LL := [pwL n ja, pwL k jb]) (g1 := eC (.int 0)) (g2 := eIx (eVar 4) (eC (.int 0))) (j := 0) (t := u) (a := 0) (b := x.1.1) (v := n ^ u) rfl (eC_ev _) j0 rfl rfl (by rw [hu, pwL_len]; exact ixN_nat (by omega)) (by unfold pwL; rw [List.getElem?_map, List.getElem?_range (by omega)]; rfl)
    have a1 := ix_own2 (i := 5) (r := R') (LL := [pwL n ja, pwL k jb]) (g1 := eC (.int 1)) (g2 := eIx (eVar 4) (eC (.int 1))) (j := 1) (t := v) (a := 1) (b := x.1.2) (v := k ^ v) rfl (eC_ev _) j1 rfl rfl (by rw [hv, pwL_len]; exact ixN_nat (by omega)) (by unfold pwL; rw [List.getElem?_map, List.getElem?_range (by omega)]; rfl)
    have m1 := e_mul (f := eVar 8) (r := R') (a := x.2) m 8001 rfl a0 (hP.v x hx) (pl n u hn (by omega))
    have m2 := e_mul (m + 8001) 8001 m1 a1 (natAbs_mul_lt (hP.v x hx) (pl n u hn (by omega)) (Nat.le_refl _)) (pl k v hk (by omega))
    refine set_go (x := .nw (I (pvl (d ++ [x]) n k))) ?_ rfl (by simp [R])
    rw [ev_append]
    have ex : pvl [x] n k = x.2 * n ^ u * k ^ v := by
      show x.2 * (n ^ x.1.1.toNat * k ^ x.1.2.toNat) + 0 = _
      rw [hu, hv, Int.add_zero, Int.mul_assoc]; rfl
    rw [ex]
    exact e_add rfl m2)
  subst hr4
  show runF 9 B__law_pair_at _ = _
  unfold B__law_pair_at
  exact run_ret (seq_go (r' := R (M2 []) .un .un .un .un .un) (set_go (x := .nw (nO [0, 0])) rfl rfl (by simp [startE])) (seq_go e1 (seq_go (r' := R (M2 P) y4 (LS 0 0) .un .un .un) (set_go (x := .nw (.ls ([pwL n 0, pwL k 0].map nO))) (by rw [show pwL n 0 = [1] by simp [pwL], show pwL k 0 = [1] by simp [pwL]]; rfl) rfl (by simp [R])) (seq_go (for_go er2 e2) (seq_go (for_go er3 e3) (seq_go (r' := R (M2 P) y4 (LS ja jb) y6' (VI 0) .un) (set_go (eC_ev _) rfl (by simp [R])) (seq_go e4 rfl)))))))
theorem stp_all {n k i far : Int} (hi : 0 ≤ i ∧ i ≤ far) (hf : far ≤ 2) (hn : 0 ≤ n) (hk : 0 ≤ k) : ∀ (ps : List Pt) {P : PP} {a m : Nat} {w f : Int × Int}, (∀ p ∈ ps, okPt p) → Bx P a a m → a + 30 * ps.length ≤ 200 → w.1 * f.2 = pvl P n k * f.1 * w.2 → (prP (fun p => wrP p (n + i) k) w ps).1 * (prP (fun p => flP p n k far) f ps).2 = pvl (foP (fun p => stpPt p i far) P ps) n k * (prP (fun p => flP p n k far) f ps).1 * (prP (fun p => wrP p (n + i) k) w ps).2
  | [], _, _, _, _, _, _, _, _, h => h
  | p :: ps, P, a, m, w, f, hp, b, hl, h => by
    rw [List.length_cons] at hl
    have b2 := stp_bx (hp p List.mem_cons_self) hi hf
    have b3 := times_bx b b2 (by
      have : (a + 30 + 1) * (a + 30 + 1) ≤ 201 * 201 := Nat.mul_le_mul (by omega) (by omega)
      omega)
    have id := stp_id (hp p List.mem_cons_self) hi hf hn hk
    refine stp_all hi hf hn hk ps (fun q hq => hp q (List.mem_cons_of_mem _ hq)) b3 (by omega) ?_
    rw [ev_times b b2]
    dsimp only
    generalize (wrP p (n + i) k).1 = A at *
    generalize (wrP p (n + i) k).2 = B at *
    generalize (flP p n k far).1 = C at *
    generalize (flP p n k far).2 = D at *
    generalize pvl (stpPt p i far) n k = S at *
    generalize pvl P n k = T at *
    calc w.1 * A * (f.2 * D) = (w.1 * f.2) * (A * D) := by grind
      _ = (T * f.1 * w.2) * (S * C * B) := by rw [h, id]
      _ = T * S * (f.1 * C) * (w.2 * B) := by grind
theorem up_all {n k far : Int} (hf : 0 ≤ far ∧ far ≤ 2) (hn : 0 ≤ n) (hk : 0 ≤ k) : ∀ (ps : List Pt) {P Q : PP} {a m : Nat} {f g : Int × Int}, (∀ p ∈ ps, okPt p) → Bx P a a m → Bx Q a a m → a + 30 * ps.length ≤ 200 → pvl P n k * f.1 * g.2 = pvl Q n k * g.1 * f.2 → pvl (foP (fun p => upPt p far) P ps) n k * (prP (fun p => flP p n k far) f ps).1 * (prP (fun p => flP p n (k + 1) far) g ps).2 = pvl (foP (fun p => dnPt p far) Q ps) n k * (prP (fun p => flP p n (k + 1) far) g ps).1 * (prP (fun p => flP p n k far) f ps).2
  | [], _, _, _, _, _, _, _, _, _, _, h => h
  | p :: ps, P, Q, a, m, f, g, hp, b, b', hl, h => by
    rw [List.length_cons] at hl
    have ha : (a + 30 + 1) * (a + 30 + 1) < 100000 := by
      have : (a + 30 + 1) * (a + 30 + 1) ≤ 201 * 201 := Nat.mul_le_mul (by omega) (by omega)
      omega
    have b2 := up_bx (hp p List.mem_cons_self) hf
    have b3 := times_bx b b2 ha
    have b2' := dn_bx (hp p List.mem_cons_self) hf
    have b3' := times_bx b' b2' ha
    have id := up_id (hp p List.mem_cons_self) hf hn hk
    refine up_all hf hn hk ps (fun q hq => hp q (List.mem_cons_of_mem _ hq)) b3 b3' (by omega) ?_
    rw [ev_times b b2, ev_times b' b2']
    dsimp only
    generalize (flP p n (k + 1) far).1 = A at *
    generalize (flP p n (k + 1) far).2 = B at *
    generalize (flP p n k far).1 = C at *
    generalize (flP p n k far).2 = D at *
    generalize pvl (upPt p far) n k = S at *
    generalize pvl (dnPt p far) n k = S' at *
    generalize pvl P n k = T at *
    generalize pvl Q n k = T' at *
    calc T * S * (f.1 * C) * (g.2 * B) = (T * f.1 * g.2) * (S * C * B) := by grind
      _ = (T' * g.1 * f.2) * (S' * A * D) := by rw [h, id]
      _ = T' * S' * (g.1 * A) * (f.2 * D) := by grind
theorem fl_pos {p : Pt} (hp : okPt p) (n k far : Int) : 1 ≤ (flP p n k far).2 := by
  cases p with
  | ch h l =>
    show 1 ≤ (flC h l n k far).2
    unfold flC
    split
    · decide
    · have h1 := fc_pos (at3 (rl far l) n k)
      have h2 := fc_pos (at3 (rl far (dif3 h l)) n k)
      have := Int.mul_pos (show 0 < fc (at3 (rl far l) n k) by omega) (show 0 < fc (at3 (rl far (dif3 h l)) n k) by omega)
      dsimp only; omega
  | wt f => exact Int.le_refl 1
  | pw f => exact pow_pos2 hp _
  | gr f =>
    have h1 := pow_pos2 hp n.toNat
    have h2 := pow_pos2 hp far.toNat
    have := Int.mul_pos (show 0 < f.2 ^ n.toNat by omega) (show 0 < f.2 ^ far.toNat by omega)
    show 1 ≤ f.2 ^ n.toNat * f.2 ^ far.toNat
    omega
theorem wr_pos {p : Pt} (hp : okPt p) (n k : Int) : 1 ≤ (wrP p n k).2 := by
  cases p with
  | ch h l => exact fl_pos (p := .ch h l) hp n k 0
  | wt f => exact Int.le_refl 1
  | pw f => exact pow_pos2 hp _
  | gr f => exact pow_pos2 hp _
theorem prP_pos {g : Pt → Int × Int} : ∀ (ps : List Pt) {P : Int × Int}, (∀ p ∈ ps, 1 ≤ (g p).2) → 1 ≤ P.2 → 1 ≤ (prP g P ps).2
  | [], _, _, h => h
  | p :: ps, P, hg, h => prP_pos ps (fun q hq => hg q (List.mem_cons_of_mem _ hq)) (by
    have := Int.mul_pos (show 0 < P.2 by omega) (show 0 < (g p).2 by have := hg p List.mem_cons_self; omega)
    dsimp only; omega)
theorem cross_st {w W h H : Int × Int} {S : Int} {m m' : Nat} (a : Fl w W m) (b : Fl h H m') (pW : 1 ≤ W.2) (pH : 1 ≤ H.2) (e : W.1 * H.2 = S * H.1 * W.2) : w.1 * h.2 = S * h.1 * w.2 := by
  have x1 := a.x
  have x2 := b.x
  have z : W.2 * H.2 ≠ 0 := Int.mul_ne_zero (by omega) (by omega)
  refine Int.eq_of_mul_eq_mul_right z ?_
  calc w.1 * h.2 * (W.2 * H.2) = (w.1 * W.2) * H.2 * h.2 := by grind
    _ = (W.1 * H.2) * w.2 * h.2 := by rw [x1]; grind
    _ = S * (H.1 * h.2) * W.2 * w.2 := by rw [e]; grind
    _ = S * (h.1 * H.2) * W.2 * w.2 := by rw [x2]
    _ = S * h.1 * w.2 * (W.2 * H.2) := by grind
theorem cross_up {h H t T : Int × Int} {A B : Int} {m m' : Nat} (a : Fl h H m) (b : Fl t T m') (pH : 1 ≤ H.2) (pT : 1 ≤ T.2) (e : A * H.1 * T.2 = B * T.1 * H.2) : A * h.1 * t.2 = B * t.1 * h.2 := by
  have x1 := a.x
  have x2 := b.x
  have z : H.2 * T.2 ≠ 0 := Int.mul_ne_zero (by omega) (by omega)
  refine Int.eq_of_mul_eq_mul_right z ?_
  calc A * h.1 * t.2 * (H.2 * T.2) = A * (h.1 * H.2) * T.2 * t.2 := by grind
    _ = (A * H.1 * T.2) * h.2 * t.2 := by rw [x1]; grind
    _ = B * (T.1 * t.2) * H.2 * h.2 := by rw [e]; grind
    _ = B * (t.1 * T.2) * H.2 * h.2 := by rw [x2]
    _ = B * t.1 * h.2 * (H.2 * T.2) := by grind
theorem isfr_ok {q : Int × Int} (h : 1 ≤ q.2) : M__law_is_fraction [.fz (fD q)] = .ok (.fz (.bl true)) := by
  let R : Env := [.vl false (.fz (fD q))]
  have i0 : eIx (eVar 0) (eC (.int 0)) R = .ok (.nw (I q.1)) := ix_t 0 (ds := [.int q.1, .int q.2]) rfl rfl
  have i1 : eIx (eVar 0) (eC (.int 1)) R = .ok (.nw (I q.2)) := ix_t 1 (ds := [.int q.1, .int q.2]) rfl rfl
  have e1 : eCall M__law_whole (aCons (eIx (eVar 0) (eC (.int 0))) aNil) R = .ok (.nw (.fz (.bl true))) := call1 i0 rfl
  have e2 : eCall M__law_whole (aCons (eIx (eVar 0) (eC (.int 1))) aNil) R = .ok (.nw (.fz (.bl true))) := call1 i1 rfl
  have e3 : eOp gGt (eIx (eVar 0) (eC (.int 1))) (eC (.int 0)) R = .ok (.nw (.fz (.bl true))) := by
    rw [op_of i1 (eC_ev _)]
    show gGt (I q.2) (I 0) = _
    rw [show gGt (I q.2) (I 0) = .ok (.nw (.fz (.bl (decide (0 < q.2))))) from rfl, decide_eq_true (by omega)]
  show runF 1 B__law_is_fraction _ = _
  unfold B__law_is_fraction
  refine run_ret (seq_go (r' := R) (if_f (or_ff (bF rfl) (by rw [t_ne (a := 2) (b := 2) rfl (eC_ev _)]; rfl)) rfl) (ret_go ?_))
  show eAnd _ _ R = _
  simp only [eAnd, e1, e2, e3, res_ok, ra_nw, er_fz, onB, if_true]
theorem frame_e {ps : List Pt} (hp : ∀ p ∈ ps, okPt p) (hl : ps.length ≤ 6) {far : Nat} (hf : far ≤ 2) {i : Nat} {g : FE} {r : Env} (h : eVar i r = .ok (.nw (.fz (tmE ps)))) (hg : g r = .ok (.nw (I far))) : eMeth [("Term", M_Term_frame)] "frame" (eVar i) (aCons g aNil) r = .ok (.nw (.fz (frD ps far))) :=
  meth_ok (x := .nw (.fz (tmE ps))) (c := "Term") (ns := ["made", "words"]) (M := M_Term_frame) (os := [I far]) h rfl (by decide) rfl (by simp only [aCons_ev, hg, res_ok, aNil_ev]; rfl) (frame_ok hp hl hf)
theorem pvl_lt {P : PP} {n k : Int} (hP : Bx P 180 180 8700) (hn : 0 ≤ n ∧ n ≤ 40) (hk : 0 ≤ k ∧ k ≤ 40) : (pvl P n k).natAbs < 2 ^ 40000 := by
  have pl : ∀ (x : Int) (j : Nat), 0 ≤ x ∧ x ≤ 40 → j ≤ 180 → (x ^ j).natAbs < 2 ^ 1081 := fun x j hx hj => by
    have : ∀ j : Nat, (x ^ j).natAbs < 2 ^ (6 * j + 1) := fun j => by
      induction j with
      | zero => simp
      | succ j ih =>
        rw [Int.pow_succ]
        exact natAbs_mul_lt ih (show x.natAbs < 2 ^ 6 by omega) (by rw [Nat.mul_add]; omega)
    exact lt_up (this j) (by omega)
  have h1 := sum_abs (P.map fun x => x.2 * mon x.1 n k) (2 ^ 20000) fun z hz => by
    obtain ⟨x, hx, rfl⟩ := List.mem_map.mp hz
    have kx := hP.k x hx
    refine Nat.le_of_lt (natAbs_mul_lt (hP.v x hx) (natAbs_mul_lt (pl n x.1.1.toNat hn (by omega)) (pl k x.1.2.toNat hk (by omega)) (Nat.le_refl _)) (by omega))
  rw [List.length_map] at h1
  have hl := hP.len
  have : P.length * 2 ^ 20000 < 2 ^ 16 * 2 ^ 20000 := Nat.mul_lt_mul_of_pos_right (by omega) (Nat.two_pow_pos _)
  rw [← Nat.pow_add] at this
  exact lt_up (Nat.lt_of_le_of_lt h1 this) (by omega)
theorem holds_ok {ps : List Pt} (hp : ∀ p ∈ ps, okPt p) (hl : ps.length ≤ 6) {far : Nat} (hf : far ≤ 2) {n k : Int} (hn : 0 ≤ n ∧ n ≤ 30) (hk : 0 ≤ k ∧ k ≤ 30) : M__law_holds [.fz (tmE ps), .fz (frD ps far), I far, I n, I k] = .ok (.fz (.bl true)) := by
  have f2 : (0 : Int) ≤ (far : Int) ∧ (far : Int) ≤ 2 := by omega
  obtain ⟨h, eh, gh⟩ := tfloor_ok hp hl (n := n) (k := k) (far := far) (by omega) (by omega) f2
  obtain ⟨t, et, gt⟩ := tfloor_ok hp hl (n := n) (k := k + 1) (far := far) (by omega) (by omega) f2
  have hB : ∀ x, x ≤ 6 → 1 + 13000 * x ≤ 80000 := fun x hx => by omega
  have up : ∀ {q p : Int × Int}, Fg q p (1 + 13000 * ps.length) → Fl q p 80000 := fun {q p} g => ⟨g.f.b, g.f.x, lt_up g.f.t (hB _ hl), lt_up g.f.d (hB _ hl)⟩
  have fh := up gh
  have ft := up gt
  let A : S := .vl false (.fz (tmE ps))
  let F : S := .vl false (.fz (frD ps far))
  let R (x5 x6 x7 x8 x9 : S) : Env := [A, F, .vl false (I far), .vl false (I n), .vl false (I k), x5, x6, x7, x8, x9]
  let H : S := .vl true (.fz (fD h))
  let T : S := .vl true (.fz (fD t))
  have mF : ∀ (x5 x6 : S) (g : FE) (kk : Int) (q : Int × Int), g (R x5 x6 .un .un .un) = .ok (.nw (I kk)) → M_Term_floor [.fz (tmE ps), I n, I kk, I far] = .ok (.fz (fD q)) → eMeth [("Term", M_Term_floor)] "floor" (eVar 0) (aCons (eVar 3) (aCons g (aCons (eVar 2) aNil))) (R x5 x6 .un .un .un) = .ok (.nw (.fz (fD q))) := fun x5 x6 g kk q hg e => by
    refine meth_ok (x := .nw (.fz (tmE ps))) (c := "Term") (ns := ["made", "words"]) (M := M_Term_floor) (os := [I n, I kk, I far]) rfl rfl (by decide) rfl ?_ e
    have v3 : eVar 3 (R x5 x6 .un .un .un) = .ok (.nw (I n)) := rfl
    have v2 : eVar 2 (R x5 x6 .un .un .un) = .ok (.nw (I far)) := rfl
    simp only [aCons_ev, v3, hg, v2, res_ok, aNil_ev]; rfl
  have s1 : sSet 5 false (eMeth [("Term", M_Term_floor)] "floor" (eVar 0) (aCons (eVar 3) (aCons (eVar 4) (aCons (eVar 2) aNil)))) (R .un .un .un .un .un) = .nx (R H .un .un .un .un) := set_go (mF _ _ _ k h rfl eh) rfl (by simp [R])
  have s2 : sSet 6 false (eMeth [("Term", M_Term_floor)] "floor" (eVar 0) (aCons (eVar 3) (aCons (eOp gAddA (eVar 4) (eC (.int 1))) (aCons (eVar 2) aNil)))) (R H .un .un .un .un) = .nx (R H T .un .un .un) := set_go (mF _ _ _ (k + 1) t (e_add rfl (eC_ev _)) et) rfl (by simp [R])
  have t3 : tOrD (tNotD (tOf (eCall M__law_is_fraction (aCons (eVar 5) aNil)))) (tNotD (tOf (eCall M__law_is_fraction (aCons (eVar 6) aNil)))) (R H T .un .un .un) = .ok false := or_ff (bF (call1 (x := .nw (.fz (fD h))) rfl (isfr_ok fh.b))) (bF (call1 (x := .nw (.fz (fD t))) rfl (isfr_ok ft.b)))
  have h0 : ∀ x7 x8 x9, eIx (eVar 5) (eC (.int 0)) (R H T x7 x8 x9) = .ok (.nw (I h.1)) := fun _ _ _ => ix_t 0 (ds := [.int h.1, .int h.2]) rfl rfl
  have h1 : ∀ x7 x8 x9, eIx (eVar 5) (eC (.int 1)) (R H T x7 x8 x9) = .ok (.nw (I h.2)) := fun _ _ _ => ix_t 1 (ds := [.int h.1, .int h.2]) rfl rfl
  have t0 : ∀ x7 x8 x9, eIx (eVar 6) (eC (.int 0)) (R H T x7 x8 x9) = .ok (.nw (I t.1)) := fun _ _ _ => ix_t 0 (ds := [.int t.1, .int t.2]) rfl rfl
  have t1 : ∀ x7 x8 x9, eIx (eVar 6) (eC (.int 1)) (R H T x7 x8 x9) = .ok (.nw (I t.2)) := fun _ _ _ => ix_t 1 (ds := [.int t.1, .int t.2]) rfl rfl
  have pa : ∀ (f : FE) (x7 x8 x9 : S) (P : PP), Bx P 180 180 8700 → f (R H T x7 x8 x9) = .ok (.nw (.fz (pD P))) → eCall M__law_pair_at (aCons f (aCons (eVar 3) (aCons (eVar 4) aNil))) (R H T x7 x8 x9) = .ok (.nw (I (pvl P n k))) := fun f x7 x8 x9 P hP e => call3 (x := .nw (.fz (pD P))) (y := .nw (I n)) (z := .nw (I k)) e rfl rfl (pair_at (.inr rfl) hP (by omega) (by omega) (by omega) (by omega) (by omega) (by omega))
  have pH := prP_pos (g := fun p => flP p n k far) ps (P := (1, 1)) (fun p h => fl_pos (hp p h) _ _ _) (by decide)
  have pT := prP_pos (g := fun p => flP p n (k + 1) far) ps (P := (1, 1)) (fun p h => fl_pos (hp p h) _ _ _) (by decide)
  have er := rng_ok (fs := aCons (eOp gAddA (eVar 2) (eC (.int 1))) aNil) (r := R H T .un .un .un) (n := far + 1) (by
    have := e_add (f := eVar 2) (g := eC (.int 1)) (r := R H T .un .un .un) (a := far) (b := 1) rfl (eC_ev _)
    simp only [aCons_ev, this, res_ok, aNil_ev]; rfl) (by omega)
  obtain ⟨r4, e4, z7, z8, hr4⟩ := forL_inv (fg := gN 7) (F := (sSeq (sSet 8 false (eMeth [("Term", M_Term_worth)] "worth" (eVar 0) (aCons (eOp gAddA (eVar 3) (eVar 7)) (aCons (eVar 4) aNil)))) (sSeq (sIf (tNotD (tOf (eCall M__law_is_fraction (aCons (eVar 8) aNil)))) (sRet (eC (.bl false))) sNil) (sIf (tOf (eOp gNe (eOp gMulA (eIx (eVar 8) (eC (.int 0))) (eIx (eVar 5) (eC (.int 1)))) (eOp gMulA (eOp gMulA (eCall M__law_pair_at (aCons (eIx (eIx (eVar 1) (eC (.int 0))) (eVar 7)) (aCons (eVar 3) (aCons (eVar 4) aNil)))) (eIx (eVar 5) (eC (.int 0)))) (eIx (eVar 8) (eC (.int 1)))))) (sRet (eC (.bl false))) sNil)))) (its := (List.range (far + 1)).map fun (j : Nat) => intR (j : Int)) (r := R H T .un .un .un)
    (fun i r => ∃ y z, r = R H T y z .un) ⟨.un, .un, rfl⟩ (fun i z r hz ⟨y7, y8, hr⟩ => by
      subst hr
      obtain ⟨hi, rfl⟩ : i < far + 1 ∧ z = intR (i : Int) := by
        rw [List.getElem?_map] at hz
        cases hj : (List.range (far + 1))[i]? with
        | none => rw [hj] at hz; cases hz
        | some j =>
          rw [hj] at hz
          obtain ⟨h1, h2⟩ := List.getElem?_eq_some_iff.mp hj
          simp at h1 h2
          subst h2
          exact ⟨by omega, (Option.some.inj hz).symm⟩
      have i2 : (0 : Int) ≤ (i : Int) ∧ (i : Int) ≤ (far : Int) := by omega
      obtain ⟨w, ew, gw⟩ := tworth_ok hp hl (n := n + i) (k := k) (by omega) (by omega)
      have fw := up gw
      let W : S := .vl true (.fz (fD w))
      let Ri (y : S) : Env := R H T (VI (i : Int)) y .un
      have mw : eMeth [("Term", M_Term_worth)] "worth" (eVar 0) (aCons (eOp gAddA (eVar 3) (eVar 7)) (aCons (eVar 4) aNil)) (Ri y8) = .ok (.nw (.fz (fD w))) := by
        refine meth_ok (x := .nw (.fz (tmE ps))) (c := "Term") (ns := ["made", "words"]) (M := M_Term_worth) (os := [I (n + i), I k]) rfl rfl (by decide) rfl ?_ ew
        have v3 := e_add (f := eVar 3) (g := eVar 7) (r := Ri y8) (a := n) (b := i) rfl rfl
        have v4 : eVar 4 (Ri y8) = .ok (.nw (I k)) := rfl
        simp only [aCons_ev, v3, v4, res_ok, aNil_ev]; rfl
      have bs := foF_bx (g := fun p => stpPt p i far) (ps := ps) (fun p h => stp_bx (hp p h) i2 f2.2) hl
      have bs' : Bx (foF (fun p => stpPt p i far) ps) 180 180 8700 := bs.up (by omega) (by omega) (by omega)
      have w0 : eIx (eVar 8) (eC (.int 0)) (Ri W) = .ok (.nw (I w.1)) := ix_t 0 (ds := [.int w.1, .int w.2]) rfl rfl
      have w1 : eIx (eVar 8) (eC (.int 1)) (Ri W) = .ok (.nw (I w.2)) := ix_t 1 (ds := [.int w.1, .int w.2]) rfl rfl
      have ef : eIx (eIx (eVar 1) (eC (.int 0))) (eVar 7) (Ri W) = .ok (.nw (.fz (pD (foF (fun p => stpPt p i far) ps)))) := by
        have e0 : eIx (eVar 1) (eC (.int 0)) (Ri W) = .ok (.nw (.fz (.lst ((List.range (far + 1)).map fun (i : Nat) => pD (foF (fun p => stpPt p i far) ps))))) := ix_t 0 (f := eVar 1) (r := Ri W) rfl rfl
        refine ix_nw e0 (k := (i : Int)) rfl ?_
        show atI (((List.range (far + 1)).map fun (i : Nat) => pD (foF (fun p => stpPt p i far) ps)).map O.fz) (i : Int) = _
        exact atI_ok (by omega) (by rw [Int.toNat_natCast]; simp [hi])
      have pv := pvl_lt (n := n) (k := k) bs' (by omega) (by omega)
      have pe := pa _ _ _ _ _ bs' ef
      have pW := prP_pos (g := fun p => wrP p (n + i) k) ps (P := (1, 1)) (fun p h => wr_pos (hp p h) _ _) (by decide)
      have all := stp_all (n := n) (k := k) i2 f2.2 hn.1 hk.1 ps (P := oneP) (w := (1, 1)) (f := (1, 1)) hp one_bx (by omega) (by rw [ev_one]; rfl)
      have cr := cross_st fw fh pW pH all
      have m1 := e_mul 80000 80000 w0 (h1 (VI (i : Int)) W .un) fw.t fh.d
      have m2 := e_mul 120000 80000 (e_mul 40000 80000 pe (h0 (VI (i : Int)) W .un) pv fh.t) w1 (natAbs_mul_lt pv fh.t (by omega)) fw.d
      refine ⟨Ri y8, Ri W, by simp [Ri, R, intR], seq_go (r' := Ri W) (set_go mw rfl (by simp [Ri, R])) (seq_go (r' := Ri W) (if_f (bF (call1 (x := .nw (.fz (fD w))) rfl (isfr_ok fw.b))) rfl) (if_f ?_ rfl)), VI (i : Int), W, rfl⟩
      rw [t_ne m1 m2, cr, decide_eq_true rfl]; rfl)
  subst hr4
  let R' (x9 : S) : Env := R H T z7 z8 x9
  have bu : Bx (foF (fun p => upPt p far) ps) 180 180 8700 := (foF_bx (g := fun p => upPt p far) (ps := ps) (fun p h => up_bx (hp p h) f2) hl).up (by omega) (by omega) (by omega)
  have bd : Bx (foF (fun p => dnPt p far) ps) 180 180 8700 := (foF_bx (g := fun p => dnPt p far) (ps := ps) (fun p h => dn_bx (hp p h) f2) hl).up (by omega) (by omega) (by omega)
  have eu : ∀ x9, eIx (eVar 1) (eC (.int 1)) (R' x9) = .ok (.nw (.fz (pD (foF (fun p => upPt p far) ps)))) := fun x9 => ix_t 1 (f := eVar 1) (r := R' x9) rfl rfl
  have ed : ∀ x9, eIx (eVar 1) (eC (.int 2)) (R' x9) = .ok (.nw (.fz (pD (foF (fun p => dnPt p far) ps)))) := fun x9 => ix_t 2 (f := eVar 1) (r := R' x9) rfl rfl
  have pu := pvl_lt (n := n) (k := k) bu (by omega) (by omega)
  have pd := pvl_lt (n := n) (k := k) bd (by omega) (by omega)
  let X : Int := pvl (foF (fun p => upPt p far) ps) n k * h.1 * t.2
  have m5 := e_mul 120000 80000 (e_mul 40000 80000 (pa _ _ _ _ _ bu (eu .un)) (h0 z7 z8 .un) pu fh.t) (t1 z7 z8 .un) (natAbs_mul_lt pu fh.t (by omega)) ft.d
  have m6 := e_mul 120000 80000 (e_mul 40000 80000 (pa _ _ _ _ _ bd (ed (VI X))) (t0 z7 z8 (VI X)) pd ft.t) (h1 z7 z8 (VI X)) (natAbs_mul_lt pd ft.t (by omega)) fh.d
  have all := up_all (n := n) (k := k) f2 hn.1 hk.1 ps (P := oneP) (Q := oneP) (f := (1, 1)) (g := (1, 1)) hp one_bx one_bx (by omega) rfl
  have cr := cross_up fh ft pH pT all
  show runF 10 B__law_holds _ = _
  unfold B__law_holds
  refine run_ret (seq_go s1 (seq_go s2 (seq_go (if_f t3 rfl) (seq_go (for_go er e4) (seq_go (r' := R' (VI X)) (set_go m5 rfl (by simp [R])) (ret_go ?_))))))
  rw [op_of (x := .nw (I X)) rfl m6, ← cr]
  show gEq (I _) (I _) = _
  rw [gEq_ev, decide_eq_true rfl]
theorem sl_scr2 {ns : List Int} {r : Env} {a b : Nat} (hl : ns.length ≤ 63) : ∃ xs : List Int, eSl (eVar 0) (pSome (eC (.int a))) (pSome (eC (.int b))) (.vl false (.fz (.scr ns)) :: r) = .ok (.nw (nO xs)) ∧ xs.length ≤ 63 := by
  refine ⟨cutL ns (some (a : Int)) (some (b : Int)), ?_, ?_⟩
  · have h0 : eVar 0 (.vl false (.fz (.scr ns)) :: r) = .ok (.nw (.fz (.scr ns))) := rfl
    simp only [eSl, h0, res_ok, pSome, eC_ev, ra_nw, er_fz, items_scr]
    show lsR (cutL (iL ns) (some (a : Int)) (some (b : Int))) = _
    rw [cutL_iL]
    refine lsR_ev (allFz_iL _) ?_
    rw [iL_length]
    unfold cutL
    simp only [List.length_take, List.length_drop]
    omega
  · unfold cutL
    simp only [List.length_take, List.length_drop]
    omega
theorem hlaw : ∀ ns : List Int, ns.length ≤ 63 → runF 11 B_law [.fz (.scr ns)] = .ok (.fz (.bl true)) := by
  intro ns hns
  obtain ⟨ps, eP, hp, h1, h6, _⟩ := parts_ok ns
  let A : S := .vl false (.fz (.scr ns))
  let W : S := .vl true (.fz (LPt ps))
  let T : S := .vl true (.fz (tmE ps))
  obtain ⟨m, hm, em⟩ := mixed_ok (cellAt ns 0) 5 (by omega)
  have rf := fmod_rg (a := m) (b := 3) (by omega)
  obtain ⟨far, hfar⟩ : ∃ far : Nat, m.fmod 3 = far := ⟨(m.fmod 3).toNat, by omega⟩
  have hf : far ≤ 2 := by omega
  let F : S := .vl true (.fz (frD ps far))
  let E (x5 x6 x7 x8 x9 x10 : S) : Env := [A, W, VI (far : Int), T, F, x5, x6, x7, x8, x9, x10]
  let VS (vs : List (Int × Int)) : S := .vl true (.ls (vs.map fun p => .fz (fD p)))
  have s1 : sSet 1 false (eCall M__law_parts (aCons (eVar 0) (aCons (eLst (aCons (eC (.int 3)) (aCons (eC (.int 1)) aNil))) aNil))) [A, .un, .un, .un, .un, .un, .un, .un, .un, .un, .un] = .nx [A, W, .un, .un, .un, .un, .un, .un, .un, .un, .un] :=
    set_go (call2 (x := .nw (.fz (.scr ns))) (y := .nw (nO [3, 1])) rfl rfl (by rw [ra_nO]; exact eP)) (by rw [put_nwF, er_oPt]) (by simp)
  have s2 : sSet 2 false (eOp gMod (eCall M__law_mixed (aCons (eCall M__law_cell_at (aCons (eVar 0) (aCons (eC (.int 0)) aNil))) (aCons (eC (.int 5)) aNil))) (eC (.int 3))) [A, W, .un, .un, .un, .un, .un, .un, .un, .un, .un] = .nx [A, W, VI (far : Int), .un, .un, .un, .un, .un, .un, .un, .un] :=
    set_go (x := .nw (I (far : Int))) (by rw [← hfar]; exact e_mod (call2 (x := .nw (I (cellAt ns 0))) (y := .nw (I 5)) (cell_c (by omega)) (eC_ev _) em) (by omega)) rfl (by simp)
  have s3 : sSet 3 false (eMake M_Term___init__ (aCons (eVar 1) aNil)) [A, W, VI (far : Int), .un, .un, .un, .un, .un, .un, .un, .un] = .nx [A, W, VI (far : Int), T, .un, .un, .un, .un, .un, .un, .un] :=
    set_go (make_ok (os := [.fz (LPt ps)]) rfl (term_made (.inr rfl) h1 h6 fun p h => gd_of (hp p h))) (by rw [put_nwF, er_tm]) (by simp)
  have s4 : sSet 4 false (eMeth [("Term", M_Term_frame)] "frame" (eVar 3) (aCons (eVar 2) aNil)) [A, W, VI (far : Int), T, .un, .un, .un, .un, .un, .un, .un] = .nx (E .un .un .un .un .un .un) :=
    set_go (frame_e hp h6 hf rfl rfl) rfl (by simp)
  have s5 : sSet 5 true (eLst (aCons (eTup (aCons (eC (.int 0)) (aCons (eC (.int 0)) aNil))) (aCons (eTup (aCons (eC (.int 0)) (aCons (eC (.int 1)) aNil))) (aCons (eTup (aCons (eC (.int 1)) (aCons (eC (.int 0)) aNil))) (aCons (eTup (aCons (eC (.int 1)) (aCons (eC (.int 1)) aNil))) aNil))))) (E .un .un .un .un .un .un) = .nx (E (VS [(0, 0), (0, 1), (1, 0), (1, 1)]) .un .un .un .un .un) :=
    set_go (x := .nw (.ls ([(0, 0), (0, 1), (1, 0), (1, 1)].map fun p => .fz (fD p)))) rfl rfl (by simp [E])
  obtain ⟨xs, eX, hxl⟩ := sl_scr2 (r := [W, VI (far : Int), T, F, VS [(0, 0), (0, 1), (1, 0), (1, 1)], .un, .un, .un, .un, .un]) (a := 19) (b := 30) hns
  have inr : ∀ p : Int × Int, p ∈ [((0 : Int), (0 : Int)), (0, 1), (1, 0), (1, 1)] → (0 ≤ p.1 ∧ p.1 ≤ 30) ∧ 0 ≤ p.2 ∧ p.2 ≤ 30 := by decide
  obtain ⟨r7, e7, vs, x6, x7, x8, hr7, hv7, hl7⟩ := forL_spl (fg := gN 6) (g := intR) (F := (sSeq (sSet 7 false (eCall M__law_mixed (aCons (eVar 6) (aCons (eC (.int 6)) aNil)))) (sSeq (sSet 8 false (eC (.int 13))) (sSeq (sIf (tOf (eOp gEq (eOp gMod (eVar 7) (eC (.int 8))) (eC (.int 5)))) (sSet 8 false (eC (.int 31))) sNil) (sApp 5 (eTup (aCons (eOp gMod (eOp gDiv (eVar 7) (eC (.int 8))) (eVar 8)) (aCons (eOp gMod (eOp gDiv (eOp gDiv (eVar 7) (eC (.int 8))) (eVar 8)) (eVar 8)) aNil))))))))
    (P := fun ds r => ∃ (vs : List (Int × Int)) (x y z : S), r = E (VS vs) x y z .un .un ∧ (∀ p ∈ vs, (0 ≤ p.1 ∧ p.1 ≤ 30) ∧ 0 ≤ p.2 ∧ p.2 ≤ 30) ∧ vs.length ≤ 4 + ds.length) xs [] (E (VS [(0, 0), (0, 1), (1, 0), (1, 1)]) .un .un .un .un .un) ⟨_, .un, .un, .un, rfl, inr, by simp⟩ (fun ds c suf r hs ⟨vs, x, y, z, hr, hv, hl⟩ => by
      subst hr
      have hlen : ds.length + 1 ≤ 63 := by
        have := congrArg List.length hs
        simp at this
        omega
      obtain ⟨q, hq, eq⟩ := mixed_ok c 6 (by omega)
      obtain ⟨b, s8, hb⟩ : ∃ b : Int, sIf (tOf (eOp gEq (eOp gMod (eVar 7) (eC (.int 8))) (eC (.int 5)))) (sSet 8 false (eC (.int 31))) sNil (E (VS vs) (VI c) (VI q) (VI 13) .un .un) = .nx (E (VS vs) (VI c) (VI q) (VI b) .un .un) ∧ (b = 13 ∨ b = 31) := by
        have tt : tOf (eOp gEq (eOp gMod (eVar 7) (eC (.int 8))) (eC (.int 5))) (E (VS vs) (VI c) (VI q) (VI 13) .un .un) = .ok (decide (q.fmod 8 = 5)) := t_eq (e_mod rfl (by omega)) (eC_ev _)
        by_cases h : q.fmod 8 = 5
        · exact ⟨31, if_t (tt.trans (by rw [decide_eq_true h])) (set_go (eC_ev _) rfl (by simp [E])), .inr rfl⟩
        · exact ⟨13, if_f (tt.trans (by rw [decide_eq_false h])) rfl, .inl rfl⟩
      have b0 : 0 < b := by omega
      have q1 := fmod_rg (a := q.fdiv 8) (b := b) b0
      have q2 := fmod_rg (a := (q.fdiv 8).fdiv b) (b := b) b0
      have ed : ∀ {f : FE} {a : Int}, f (E (VS vs) (VI c) (VI q) (VI b) .un .un) = .ok (.nw (I a)) → eOp gDiv f (eVar 8) (E (VS vs) (VI c) (VI q) (VI b) .un .un) = .ok (.nw (I (a.fdiv b))) := fun {f a} h => by
        rw [op_of h (y := .nw (I b)) rfl]
        show gDiv (I a) (I b) = _
        rw [gDiv_pos b0 (by omega)]
      have d8 : eOp gDiv (eVar 7) (eC (.int 8)) (E (VS vs) (VI c) (VI q) (VI b) .un .un) = .ok (.nw (I (q.fdiv 8))) := e_div rfl (by omega) (by omega)
      have et := e_tup (e_modV (g := eVar 8) d8 rfl (by omega)) (e_modV (g := eVar 8) (ed d8) rfl (show b ≠ 0 by omega))
      refine ⟨E (VS vs) (VI c) y z .un .un, E (VS (vs ++ [((q.fdiv 8).fmod b, ((q.fdiv 8).fdiv b).fmod b)])) (VI c) (VI q) (VI b) .un .un, by simp [E, intR], seq_go (r' := E (VS vs) (VI c) (VI q) z .un .un) (set_go (x := .nw (I q)) (call2 (x := .nw (I c)) (y := .nw (I 6)) rfl (eC_ev _) eq) rfl (by simp [E])) (seq_go (r' := E (VS vs) (VI c) (VI q) (VI 13) .un .un) (set_go (eC_ev _) rfl (by simp [E])) (seq_go s8 ?_)), _, VI c, VI q, VI b, rfl, fun p hpm => ?_, by simp; omega⟩
      · have := app_ls (i := 5) (r := E (VS vs) (VI c) (VI q) (VI b) .un .un) (os := vs.map fun p => .fz (fD p)) (d := fD ((q.fdiv 8).fmod b, ((q.fdiv 8).fdiv b).fmod b)) (x := .nw (.fz (fD ((q.fdiv 8).fmod b, ((q.fdiv 8).fdiv b).fmod b)))) rfl (allFz_oV vs) et rfl (by rw [List.length_map]; omega)
        rw [this]
        simp [E, VS]
      · rcases List.mem_append.mp hpm with h | h
        · exact hv p h
        · rw [List.mem_singleton.mp h]; dsimp only; omega)
  subst hr7
  have s9 : sFrz 5 (E (VS vs) x6 x7 x8 .un .un) = .nx (E (.vl true (.fz (VD vs))) x6 x7 x8 .un .un) := by
    show Out.nx ((E (VS vs) x6 x7 x8 .un .un).set 5 (.vl true (.fz (er (.ls (vs.map fun p => .fz (fD p))))))) = _
    rw [er_oV]; rfl
  have hi : iLst (eVar 5) (E (.vl true (.fz (VD vs))) x6 x7 x8 .un .un) = .ok (vs.map fun p => .nw (.fz (fD p))) := by
    rw [iLst_ds (ds := vs.map fD) rfl, List.map_map]; rfl
  obtain ⟨r8, e8, x9, x10, hr8⟩ := forL_list (fg := gT [(gN 9), (gN 10)]) (g := fun p : Int × Int => .nw (.fz (fD p))) (F := sIf (tNotD (tOf (eCall M__law_holds (aCons (eVar 3) (aCons (eVar 4) (aCons (eVar 2) (aCons (eVar 9) (aCons (eVar 10) aNil)))))))) (sRet (eC (.bl false))) sNil)
    (P := fun ds r => ∃ (x y : S), r = E (.vl true (.fz (VD vs))) x6 x7 x8 x y) vs [] (E (.vl true (.fz (VD vs))) x6 x7 x8 .un .un) ⟨.un, .un, rfl⟩ (fun ds c r hc ⟨x, y, hr⟩ => by
      subst hr
      obtain ⟨b1, b2⟩ := hv7 c hc
      exact ⟨E (.vl true (.fz (VD vs))) x6 x7 x8 (VI c.1) (VI c.2), _, rfl, if_f (bF (call_ok (os := [.fz (tmE ps), .fz (frD ps far), I (far : Int), I c.1, I c.2]) rfl (holds_ok hp h6 hf b1 b2))) rfl, VI c.1, VI c.2, rfl⟩)
  unfold B_law
  refine run_ret ?_
  show sSeq _ _ [A, .un, .un, .un, .un, .un, .un, .un, .un, .un, .un] = _
  refine seq_go s1 (seq_go s2 (seq_go s3 (seq_go s4 (seq_go s5 (seq_go (for_go ?_ e7) (seq_go s9 (seq_go (for_go hi e8) (ret_go (eC_ev _)))))))))
  have eX2 : eSl (eVar 0) (pSome (eC (.int 19))) (pSome (eC (.int 30))) (E (VS [(0, 0), (0, 1), (1, 0), (1, 1)]) .un .un .un .un .un) = .ok (.nw (nO xs)) := eX
  rw [iLst, eX2, res_ok, its_nw (xs := xs) (by simp)]
end
section
open PySem PySem.Spec PyProof.Rows L2 DL
namespace Row
variable {P : Program} {w : World} {K : PySem.W.Frag} {mg : Str → Option Value} {base : Heap} {f : Addr} {fd : FuncData}
theorem ok__law_mixed (F : FnP K "_law_mixed" s__law_mixed f fd) (hm : mg "_law_mixed" = some (.ref f)) (h_abs : mg "abs" = none) (h_range : mg "range" = none) : Def P w K mg base "_law_mixed" 1 2 M__law_mixed :=
  (Def.ofD (N := N__law_mixed) F sc__law_mixed hm (FunD.bindsN (ps := ["_law_cell", "_law_k"]) F fun _ _ _ _ _ _ us hl => match us, hl with | [_, _], _ => rfl) rfl B__law_mixed (fun cdv A outer s H E Hf B => (dss_cons (ds_if (dt_eq B (de_mod (de_var (pv 0)) de_int) de_int) (dss_cons (ds_set (i := 2) false sc__law_mixed.nd rfl (by first | exact Or.inl rfl | exact Or.inr rfl) (de_fdiv (de_B call_abs pc_abs rfl h_abs (by decide +kernel) (da_cons (de_var (pv 0)) da_nil)) de_int)) (dss_cons (ds_for B (di_rng1 rfl h_range (da_cons (de_var (pv 1)) da_nil)) (dg_name (i := 3) (vs := [3]) sc__law_mixed.nd rfl (by first | exact Or.inl rfl | exact Or.inr rfl)) (dss_one (ds_set (i := 2) false sc__law_mixed.nd rfl (by first | exact Or.inl rfl | exact Or.inr rfl) (de_fdiv (de_var (pv 2)) (de_pow de_int de_int))))) (dss_one (ds_ret (de_var (pv 2)))))) dss_nil) (dss_cons (ds_set (i := 2) false sc__law_mixed.nd rfl (by first | exact Or.inl rfl | exact Or.inr rfl) (de_mod (de_addA (de_var (pv 0)) (de_mulA de_int (de_var (pv 1)))) de_int)) (dss_cons (ds_set (i := 2) false sc__law_mixed.nd rfl (by first | exact Or.inl rfl | exact Or.inr rfl) (de_mod (de_addA (de_addA (de_mulA (de_var (pv 2)) (de_var (pv 2))) (de_mulA de_int (de_var (pv 2)))) (de_var (pv 1))) de_int)) (dss_one (ds_ret (de_mod (de_mulA (de_var (pv 2)) (de_var (pv 2))) de_int)))))))).imp (fun os h => .inr rfl)
theorem ok__law_cell_at (F : FnP K "_law_cell_at" s__law_cell_at f fd) (hm : mg "_law_cell_at" = some (.ref f)) (h_len : mg "len" = none) : Def P w K mg base "_law_cell_at" 1 2 M__law_cell_at :=
  (Def.ofD (N := N__law_cell_at) F sc__law_cell_at hm (FunD.bindsN (ps := ["_law_script", "_law_k"]) F fun _ _ _ _ _ _ us hl => match us, hl with | [_, _], _ => rfl) rfl B__law_cell_at (fun cdv A outer s H E Hf B => (dss_cons (ds_if (dt_lt (de_var (pv 1)) (de_len rfl h_len (da_cons (de_var (pv 0)) da_nil))) (dss_one (ds_ret (de_ix (de_var (pv 0)) (de_var (pv 1))))) dss_nil) (dss_one (ds_ret de_int))))).imp imp__law_cell_at
theorem ok_Choose___init__ {cn : Str} (hcn : cn = "Choose") (F : FunD K "__init__" "Choose.__init__" (defArgs s_Choose___init__) (defBody s_Choose___init__) (defScope s_Choose___init__) [] [] f fd) (mk : Mk K (He.ga K cn) f) (hm : mg cn = some (.ref (He.ga K cn))) (fl_high : FldF K TF_high "high") (fl_lows : FldF K TF_lows "lows") : DefI P w K mg base cn 1 2 M_Choose___init__ := by
  subst hcn
  exact DefI.ofD (N := N_Choose___init__) F sc_Choose___init__ mk hm (FunD.bindsN (ps := ["self", "high", "low"]) F fun _ _ _ _ _ _ us hl => match us, hl with | [_, _, _], _ => rfl) rfl (by decide) B_Choose___init__ M_Choose___init__ (fun cdv A outer s H H0 E Hf B => (dss_cons (ds_fldM (i := 0) fl_high (pv 0) (de_var (pv 1))) (dss_one (ds_fldM (i := 0) fl_lows (pv 0) (de_lst (da_cons (de_var (pv 2)) (da_cons (de_tup (da_cons (de_sub (de_ix (de_var (pv 1)) de_int) (de_ix (de_var (pv 2)) de_int)) (da_cons (de_sub (de_ix (de_var (pv 1)) de_int) (de_ix (de_var (pv 2)) de_int)) (da_cons (de_sub (de_ix (de_var (pv 1)) de_int) (de_ix (de_var (pv 2)) de_int)) da_nil)))) da_nil))))))) imp_Choose___init__
theorem ok_Weight___init__ {cn : Str} (hcn : cn = "Weight") (F : FunD K "__init__" "Weight.__init__" (defArgs s_Weight___init__) (defBody s_Weight___init__) (defScope s_Weight___init__) [] [] f fd) (mk : Mk K (He.ga K cn) f) (hm : mg cn = some (.ref (He.ga K cn))) (fl_form : FldF K TF_form "form") : DefI P w K mg base cn 1 1 M_Weight___init__ := by
  subst hcn
  exact DefI.ofD (N := N_Weight___init__) F sc_Weight___init__ mk hm (FunD.bindsN (ps := ["self", "form"]) F fun _ _ _ _ _ _ us hl => match us, hl with | [_, _], _ => rfl) rfl (by decide) B_Weight___init__ M_Weight___init__ (fun cdv A outer s H H0 E Hf B => (dss_one (ds_fldM (i := 0) fl_form (pv 0) (de_var (pv 1))))) imp_Weight___init__
theorem ok_Power___init__ {cn : Str} (hcn : cn = "Power") (F : FunD K "__init__" "Power.__init__" (defArgs s_Power___init__) (defBody s_Power___init__) (defScope s_Power___init__) [] [] f fd) (mk : Mk K (He.ga K cn) f) (hm : mg cn = some (.ref (He.ga K cn))) (fl_fraction : FldF K TF_fraction "fraction") : DefI P w K mg base cn 1 1 M_Power___init__ := by
  subst hcn
  exact DefI.ofD (N := N_Power___init__) F sc_Power___init__ mk hm (FunD.bindsN (ps := ["self", "fraction"]) F fun _ _ _ _ _ _ us hl => match us, hl with | [_, _], _ => rfl) rfl (by decide) B_Power___init__ M_Power___init__ (fun cdv A outer s H H0 E Hf B => (dss_one (ds_fldM (i := 0) fl_fraction (pv 0) (de_var (pv 1))))) imp_Power___init__
theorem ok_Growth___init__ {cn : Str} (hcn : cn = "Growth") (F : FunD K "__init__" "Growth.__init__" (defArgs s_Growth___init__) (defBody s_Growth___init__) (defScope s_Growth___init__) [] [] f fd) (mk : Mk K (He.ga K cn) f) (hm : mg cn = some (.ref (He.ga K cn))) (fl_fraction : FldF K TF_fraction "fraction") : DefI P w K mg base cn 1 1 M_Growth___init__ := by
  subst hcn
  exact DefI.ofD (N := N_Growth___init__) F sc_Growth___init__ mk hm (FunD.bindsN (ps := ["self", "fraction"]) F fun _ _ _ _ _ _ us hl => match us, hl with | [_, _], _ => rfl) rfl (by decide) B_Growth___init__ M_Growth___init__ (fun cdv A outer s H H0 E Hf B => (dss_one (ds_fldM (i := 0) fl_fraction (pv 0) (de_var (pv 1))))) imp_Growth___init__
theorem ok_within (F : FnP K "within" s_within f fd) (hm : mg "within" = some (.ref f)) (h_abs : mg "abs" = none) (h_max : mg "max" = none) (h_min : mg "min" = none) : Def P w K mg base "within" 1 4 M_within :=
  (Def.ofD (N := N_within) F sc_within hm (FunD.bindsN (ps := ["form", "least", "greatest", "last"]) F fun _ _ _ _ _ _ us hl => match us, hl with | [_, _, _, _], _ => rfl) rfl B_within (fun cdv A outer s H E Hf B => (dss_cons (ds_if (dt_w (dw_or (dt_lt (de_B (cr_minT rfl) pc_minT rfl h_min (by decide +kernel) (da_cons (de_slT (de_var (pv 0)) dp_none (dp_some de_int)) da_nil)) (de_var (pv 1))) (dw_or1 (dt_gt (de_B (cr_maxT rfl) pc_maxT rfl h_max (by decide +kernel) (da_cons (de_slT (de_var (pv 0)) dp_none (dp_some de_int)) da_nil)) (de_var (pv 2)))))) (dss_one (ds_ret de_bl)) dss_nil) (dss_one (ds_ret (de_and (de_le (de_B call_abs pc_abs rfl h_abs (by decide +kernel) (da_cons (de_ix (de_var (pv 0)) de_int) da_nil)) (de_var (pv 3))) (de_one (de_or (de_lt (de_var (pv 1)) de_int) (de_one (de_ge (de_ix (de_var (pv 0)) de_int) de_int)))))))))).imp (fun os h => .inr rfl)
theorem ok_Part_up {cn : Str} (F : FunD K "up" "Part.up" (defArgs s_Part_up) (defBody s_Part_up) (defScope s_Part_up) [] [] f fd) (cl : Cls K (He.ga K cn)) (hm : Meth K (He.ga K cn) "up" f)  : DefM P w K mg base cn "up" 1 2 M_Part_up :=
  (DefM.ofD (N := N_Part_up) F sc_Part_up cl hm (FunD.bindsN (ps := ["self", "far"]) F fun _ _ _ _ _ _ us hl => match us, hl with | [_, _], _ => rfl) rfl B_Part_up (fun cdv A outer s H E Hf B => (dss_one (ds_ret (de_dspT B (dps_cons (de_tup (da_cons de_int (da_cons de_int da_nil))) de_int dps_nil)))))).imp (fun os h => .inr rfl)
theorem ok_Power_up {cn : Str} (F : FunD K "up" "Power.up" (defArgs s_Power_up) (defBody s_Power_up) (defScope s_Power_up) [] [] f fd) (cl : Cls K (He.ga K cn)) (hm : Meth K (He.ga K cn) "up" f) (fl_fraction : FldF K TF_fraction "fraction") : DefM P w K mg base cn "up" 1 2 M_Power_up :=
  (DefM.ofD (N := N_Power_up) F sc_Power_up cl hm (FunD.bindsN (ps := ["self", "far"]) F fun _ _ _ _ _ _ us hl => match us, hl with | [_, _], _ => rfl) rfl B_Power_up (fun cdv A outer s H E Hf B => (dss_one (ds_ret (de_dspT B (dps_cons (de_tup (da_cons de_int (da_cons de_int da_nil))) (de_ix (de_fld fl_fraction (de_var (pv 0))) de_int) dps_nil)))))).imp (fun os h => .inr rfl)
theorem ok_Part_down {cn : Str} (F : FunD K "down" "Part.down" (defArgs s_Part_down) (defBody s_Part_down) (defScope s_Part_down) [] [] f fd) (cl : Cls K (He.ga K cn)) (hm : Meth K (He.ga K cn) "down" f)  : DefM P w K mg base cn "down" 1 2 M_Part_down :=
  (DefM.ofD (N := N_Part_down) F sc_Part_down cl hm (FunD.bindsN (ps := ["self", "far"]) F fun _ _ _ _ _ _ us hl => match us, hl with | [_, _], _ => rfl) rfl B_Part_down (fun cdv A outer s H E Hf B => (dss_one (ds_ret (de_dspT B (dps_cons (de_tup (da_cons de_int (da_cons de_int da_nil))) de_int dps_nil)))))).imp (fun os h => .inr rfl)
theorem ok_Power_down {cn : Str} (F : FunD K "down" "Power.down" (defArgs s_Power_down) (defBody s_Power_down) (defScope s_Power_down) [] [] f fd) (cl : Cls K (He.ga K cn)) (hm : Meth K (He.ga K cn) "down" f) (fl_fraction : FldF K TF_fraction "fraction") : DefM P w K mg base cn "down" 1 2 M_Power_down :=
  (DefM.ofD (N := N_Power_down) F sc_Power_down cl hm (FunD.bindsN (ps := ["self", "far"]) F fun _ _ _ _ _ _ us hl => match us, hl with | [_, _], _ => rfl) rfl B_Power_down (fun cdv A outer s H E Hf B => (dss_one (ds_ret (de_dspT B (dps_cons (de_tup (da_cons de_int (da_cons de_int da_nil))) (de_ix (de_fld fl_fraction (de_var (pv 0))) de_int) dps_nil)))))).imp (fun os h => .inr rfl)
theorem ok_Part_step {cn : Str} (F : FunD K "step" "Part.step" (defArgs s_Part_step) (defBody s_Part_step) (defScope s_Part_step) [] [] f fd) (cl : Cls K (He.ga K cn)) (hm : Meth K (He.ga K cn) "step" f)  : DefM P w K mg base cn "step" 1 3 M_Part_step :=
  (DefM.ofD (N := N_Part_step) F sc_Part_step cl hm (FunD.bindsN (ps := ["self", "i", "far"]) F fun _ _ _ _ _ _ us hl => match us, hl with | [_, _, _], _ => rfl) rfl B_Part_step (fun cdv A outer s H E Hf B => (dss_one (ds_ret (de_dspT B (dps_cons (de_tup (da_cons de_int (da_cons de_int da_nil))) de_int dps_nil)))))).imp (fun os h => .inr rfl)
theorem ok_raised (F : FnP K "raised" s_raised f fd) (hm : mg "raised" = some (.ref f)) (h_range : mg "range" = none) : Def P w K mg base "raised" 1 2 M_raised :=
  (Def.ofD (N := N_raised) F sc_raised hm (FunD.bindsN (ps := ["fraction", "many"]) F fun _ _ _ _ _ _ us hl => match us, hl with | [_, _], _ => rfl) rfl B_raised (fun cdv A outer s H E Hf B => (dss_cons (ds_set (i := 2) false sc_raised.nd rfl (by first | exact Or.inl rfl | exact Or.inr rfl) de_int) (dss_cons (ds_set (i := 3) false sc_raised.nd rfl (by first | exact Or.inl rfl | exact Or.inr rfl) de_int) (dss_cons (ds_for B (di_rng1 rfl h_range (da_cons (de_var (pv 1)) da_nil)) (dg_name (i := 4) (vs := [4]) sc_raised.nd rfl (by first | exact Or.inl rfl | exact Or.inr rfl)) (dss_cons (ds_augM (i := 2) sc_raised.nd rfl (by first | exact Or.inl rfl | exact Or.inr rfl) (de_ix (de_var (pv 0)) de_int)) (dss_one (ds_augM (i := 3) sc_raised.nd rfl (by first | exact Or.inl rfl | exact Or.inr rfl) (de_ix (de_var (pv 0)) de_int))))) (dss_one (ds_ret (de_tup (da_cons (de_var (pv 2)) (da_cons (de_var (pv 3)) da_nil)))))))))).imp (fun os h => .inr rfl)
theorem ok_without_noughts (F : FnP K "without_noughts" s_without_noughts f fd) (hm : mg "without_noughts" = some (.ref f))  : Def P w K mg base "without_noughts" 1 1 M_without_noughts :=
  (Def.ofD (N := N_without_noughts) F sc_without_noughts hm (FunD.bindsN (ps := ["one"]) F fun _ _ _ _ _ _ us hl => match us, hl with | [_], _ => rfl) rfl B_without_noughts (fun cdv A outer s H E Hf B => (dss_cons (ds_set (i := 1) true sc_without_noughts.nd rfl (by first | exact Or.inl rfl | exact Or.inr rfl) de_dnew) (dss_cons (ds_forDI (i := 0) (m := 2) (n := 3) B sc_without_noughts.nd (pv 0) rfl rfl (by first | exact Or.inl rfl | exact Or.inr rfl) (by first | exact Or.inl rfl | exact Or.inr rfl) (by first | exact Or.inl rfl | exact Or.inr rfl) (by first | exact Or.inl rfl | exact Or.inr rfl) (fun c B => (dss_one (ds_if (dt_ne B (de_var (pv 3)) de_int) (dss_one (ds_dputL (i := 1) B (pv 1) (de_var (pv 3)) (de_var (pv 2)))) dss_nil)))) (dss_one (ds_retV (pv 1))))))).imp (fun os h => .inr rfl)
theorem ok_Choose_raised_lows {cn : Str} (F : FunD K "raised_lows" "Choose.raised_lows" (defArgs s_Choose_raised_lows) (defBody s_Choose_raised_lows) (defScope s_Choose_raised_lows) [] [] f fd) (cl : Cls K (He.ga K cn)) (hm : Meth K (He.ga K cn) "raised_lows" f) (h_max : mg "max" = none) (fl_lows : FldF K TF_lows "lows") : DefM P w K mg base cn "raised_lows" 1 2 M_Choose_raised_lows :=
  (DefM.ofD (N := N_Choose_raised_lows) F sc_Choose_raised_lows cl hm (FunD.bindsN (ps := ["self", "far"]) F fun _ _ _ _ _ _ us hl => match us, hl with | [_, _], _ => rfl) rfl B_Choose_raised_lows (fun cdv A outer s H E Hf B => (dss_one (ds_ret (de_lc (own := [("low", 2)]) B sc_Choose_raised_lows.nd (di_list (de_fld fl_lows (de_var (pv 0)))) (blkOk_by (own := [("low", 2)]) (N := N_Choose_raised_lows) (sc := defScope s_Choose_raised_lows) (by decide +kernel)) (fun _ _ _ _ _ => (dg_name (i := 2) (vs := [2]) sc_Choose_raised_lows.nd rfl (by first | exact Or.inl rfl | exact Or.inr rfl))) (fun _ _ _ _ _ => (de_tup (da_cons (de_ix (de_var (pv 2)) de_int) (da_cons (de_ix (de_var (pv 2)) de_int) (da_cons (de_addA (de_ix (de_var (pv 2)) de_int) (de_mulA (de_var (pv 1)) (de_B (call_max2 rfl) pc_max2 rfl h_max (by decide +kernel) (da_cons de_int (da_cons (de_ix (de_var (pv 2)) de_int) da_nil))))) da_nil)))))))))).imp (fun os h => .inr rfl)
theorem ok__law_pair_at (F : FnP K "_law_pair_at" s__law_pair_at f fd) (hm : mg "_law_pair_at" = some (.ref f)) (h_max : mg "max" = none) (h_range : mg "range" = none) : Def P w K mg base "_law_pair_at" 1 3 M__law_pair_at :=
  (Def.ofD (N := N__law_pair_at) F sc__law_pair_at hm (FunD.bindsN (ps := ["_law_some", "_law_n", "_law_k"]) F fun _ _ _ _ _ _ us hl => match us, hl with | [_, _, _], _ => rfl) rfl B__law_pair_at (fun cdv A outer s H E Hf B => (dss_cons (ds_set (i := 3) false sc__law_pair_at.nd rfl (by first | exact Or.inl rfl | exact Or.inr rfl) (de_lst (da_cons de_int (da_cons de_int da_nil)))) (dss_cons (ds_forDK (i := 0) (m := 4) B sc__law_pair_at.nd (pv 0) rfl (by first | exact Or.inl rfl | exact Or.inr rfl) (by first | exact Or.inl rfl | exact Or.inr rfl) (fun c B => (dss_one (ds_set (i := 3) false sc__law_pair_at.nd rfl (by first | exact Or.inl rfl | exact Or.inr rfl) (de_lst (da_cons (de_B (call_max2 rfl) pc_max2 rfl h_max (by decide +kernel) (da_cons (de_ix (de_var (pv 3)) de_int) (da_cons (de_ix (de_var (pv 4)) de_int) da_nil))) (da_cons (de_B (call_max2 rfl) pc_max2 rfl h_max (by decide +kernel) (da_cons (de_ix (de_var (pv 3)) de_int) (da_cons (de_ix (de_var (pv 4)) de_int) da_nil))) da_nil))))))) (dss_cons (ds_set (i := 5) true sc__law_pair_at.nd rfl (by first | exact Or.inl rfl | exact Or.inr rfl) (de_lstO (dao_cons (de_lst (da_cons de_int da_nil)) (dao_cons (de_lst (da_cons de_int da_nil)) dao_nil)))) (dss_cons (ds_for B (di_rng1 rfl h_range (da_cons (de_ix (de_var (pv 3)) de_int) da_nil)) (dg_name (i := 6) (vs := [6]) sc__law_pair_at.nd rfl (by first | exact Or.inl rfl | exact Or.inr rfl)) (dss_one (ds_app1 (i := 5) (pv 5) de_int (de_mulA (de_ix (de_ix (de_var (pv 5)) de_int) (de_neg de_int)) (de_var (pv 1)))))) (dss_cons (ds_for B (di_rng1 rfl h_range (da_cons (de_ix (de_var (pv 3)) de_int) da_nil)) (dg_name (i := 6) (vs := [6]) sc__law_pair_at.nd rfl (by first | exact Or.inl rfl | exact Or.inr rfl)) (dss_one (ds_app1 (i := 5) (pv 5) de_int (de_mulA (de_ix (de_ix (de_var (pv 5)) de_int) (de_neg de_int)) (de_var (pv 2)))))) (dss_cons (ds_set (i := 7) false sc__law_pair_at.nd rfl (by first | exact Or.inl rfl | exact Or.inr rfl) de_int) (dss_cons (ds_forDI (i := 0) (m := 4) (n := 8) B sc__law_pair_at.nd (pv 0) rfl rfl (by first | exact Or.inl rfl | exact Or.inr rfl) (by first | exact Or.inl rfl | exact Or.inr rfl) (by first | exact Or.inl rfl | exact Or.inr rfl) (by first | exact Or.inl rfl | exact Or.inr rfl) (fun c B => (dss_one (ds_set (i := 7) false sc__law_pair_at.nd rfl (by first | exact Or.inl rfl | exact Or.inr rfl) (de_addA (de_var (pv 7)) (de_mulA (de_mulA (de_var (pv 8)) (de_ix (de_ix (de_var (pv 5)) de_int) (de_ix (de_var (pv 4)) de_int))) (de_ix (de_ix (de_var (pv 5)) de_int) (de_ix (de_var (pv 4)) de_int)))))))) (dss_one (ds_ret (de_var (pv 7))))))))))))).imp (fun os h => .inr rfl)
theorem ok_form_value (F : FnP K "form_value" s_form_value f fd) (hm : mg "form_value" = some (.ref f))  : Def P w K mg base "form_value" 1 3 M_form_value :=
  (Def.ofD (N := N_form_value) F sc_form_value hm (FunD.bindsN (ps := ["form", "n", "k"]) F fun _ _ _ _ _ _ us hl => match us, hl with | [_, _, _], _ => rfl) rfl B_form_value (fun cdv A outer s H E Hf B => (dss_one (ds_ret (de_addA (de_addA (de_mulA (de_ix (de_var (pv 0)) de_int) (de_var (pv 1))) (de_mulA (de_ix (de_var (pv 0)) de_int) (de_var (pv 2)))) (de_ix (de_var (pv 0)) de_int)))))).imp (fun os h => .inr rfl)
theorem ok_factorial (F : FnP K "factorial" s_factorial f fd) (hm : mg "factorial" = some (.ref f)) (h_range : mg "range" = none) : Def P w K mg base "factorial" 1 1 M_factorial :=
  (Def.ofD (N := N_factorial) F sc_factorial hm (FunD.bindsN (ps := ["x"]) F fun _ _ _ _ _ _ us hl => match us, hl with | [_], _ => rfl) rfl B_factorial (fun cdv A outer s H E Hf B => (dss_cons (ds_set (i := 1) false sc_factorial.nd rfl (by first | exact Or.inl rfl | exact Or.inr rfl) de_int) (dss_cons (ds_for B (di_rng2 rfl h_range (da_cons de_int (da_cons (de_addA (de_var (pv 0)) de_int) da_nil))) (dg_name (i := 2) (vs := [2]) sc_factorial.nd rfl (by first | exact Or.inl rfl | exact Or.inr rfl)) (dss_one (ds_augM (i := 1) sc_factorial.nd rfl (by first | exact Or.inl rfl | exact Or.inr rfl) (de_var (pv 2))))) (dss_one (ds_ret (de_var (pv 1)))))))).imp (fun os h => .inr rfl)
theorem ok_divisor (F : FnP K "divisor" s_divisor f fd) (hm : mg "divisor" = some (.ref f)) (h_abs : mg "abs" = none) : Def P w K mg base "divisor" 1 2 M_divisor :=
  (Def.ofD (N := N_divisor) F sc_divisor hm (FunD.bindsN (ps := ["one", "other"]) F fun _ _ _ _ _ _ us hl => match us, hl with | [_, _], _ => rfl) rfl B_divisor (fun cdv A outer s H E Hf B => (dss_cons (ds_set (i := 0) false sc_divisor.nd rfl (by first | exact Or.inl rfl | exact Or.inr rfl) (de_B call_abs pc_abs rfl h_abs (by decide +kernel) (da_cons (de_var (pv 0)) da_nil))) (dss_cons (ds_set (i := 1) false sc_divisor.nd rfl (by first | exact Or.inl rfl | exact Or.inr rfl) (de_B call_abs pc_abs rfl h_abs (by decide +kernel) (da_cons (de_var (pv 1)) da_nil))) (dss_cons (ds_wh (fun r => slotN 1 r + 1) B (dt_gt (de_var (pv 1)) de_int) (dss_cons (ds_set (i := 2) false sc_divisor.nd rfl (by first | exact Or.inl rfl | exact Or.inr rfl) (de_mod (de_var (pv 0)) (de_var (pv 1)))) (dss_cons (ds_set (i := 0) false sc_divisor.nd rfl (by first | exact Or.inl rfl | exact Or.inr rfl) (de_var (pv 1))) (dss_one (ds_set (i := 1) false sc_divisor.nd rfl (by first | exact Or.inl rfl | exact Or.inr rfl) (de_var (pv 2))))))) (dss_one (ds_ret (de_var (pv 0))))))))).imp imp_divisor
theorem ok_Part_floor {cn : Str} (F : FunD K "floor" "Part.floor" (defArgs s_Part_floor) (defBody s_Part_floor) (defScope s_Part_floor) [] [] f fd) (cl : Cls K (He.ga K cn)) (hm : Meth K (He.ga K cn) "floor" f)  : DefM P w K mg base cn "floor" 1 4 M_Part_floor :=
  (DefM.ofD (N := N_Part_floor) F sc_Part_floor cl hm (FunD.bindsN (ps := ["self", "n", "k", "far"]) F fun _ _ _ _ _ _ us hl => match us, hl with | [_, _, _, _], _ => rfl) rfl B_Part_floor (fun cdv A outer s H E Hf B => (dss_one (ds_ret (de_tup (da_cons de_int (da_cons de_int da_nil))))))).imp (fun os h => .inr rfl)
theorem ok__law_whole (F : FnP K "_law_whole" s__law_whole f fd) (hm : mg "_law_whole" = some (.ref f)) (h_bool : mg "bool" = none) (h_int : mg "int" = none) (h_isinstance : mg "isinstance" = none) : Def P w K mg base "_law_whole" 1 1 M__law_whole :=
  (Def.ofD (N := N__law_whole) F sc__law_whole hm (FunD.bindsN (ps := ["_law_found"]) F fun _ _ _ _ _ _ us hl => match us, hl with | [_], _ => rfl) rfl B__law_whole (fun cdv A outer s H E Hf B => (dss_one (ds_ret (de_and (de_isi .int rfl h_isinstance (pe_bltn rfl h_int (by decide +kernel) rfl) (de_var (pv 0))) (de_one (de_not (de_isi .bl rfl h_isinstance (pe_bltn rfl h_bool (by decide +kernel) rfl) (de_var (pv 0)))))))))).imp imp__law_whole
theorem ok__law_forms (F : FnP K "_law_forms" s__law_forms f fd) (hm : mg "_law_forms" = some (.ref f))  : Def P w K mg base "_law_forms" 1 3 M__law_forms :=
  (Def.ofD (N := N__law_forms) F sc__law_forms hm (FunD.bindsN (ps := ["_law_one", "_law_other", "_law_most"]) F fun _ _ _ _ _ _ us hl => match us, hl with | [_, _, _], _ => rfl) rfl B__law_forms (fun cdv A outer s H E Hf B => (dss_cons (ds_set (i := 3) false sc__law_forms.nd rfl (by first | exact Or.inl rfl | exact Or.inr rfl) (de_tup (da_cons (de_mod (de_var (pv 0)) (de_addA (de_var (pv 2)) de_int)) (da_cons (de_mod (de_fdiv (de_var (pv 0)) de_int) (de_addA (de_var (pv 2)) de_int)) (da_cons (de_mod (de_fdiv (de_var (pv 0)) de_int) de_int) da_nil))))) (dss_cons (ds_if (dt_eq B (de_mod (de_fdiv (de_var (pv 0)) de_int) de_int) de_int) (dss_one (ds_set (i := 4) false sc__law_forms.nd rfl (by first | exact Or.inl rfl | exact Or.inr rfl) (de_tup (da_cons (de_mod (de_var (pv 1)) (de_addA (de_ix (de_var (pv 3)) de_int) de_int)) (da_cons (de_sub (de_mod (de_fdiv (de_var (pv 1)) de_int) de_int) de_int) (da_cons (de_mod (de_fdiv (de_var (pv 1)) de_int) (de_addA (de_ix (de_var (pv 3)) de_int) de_int)) da_nil)))))) (dss_one (ds_set (i := 4) false sc__law_forms.nd rfl (by first | exact Or.inl rfl | exact Or.inr rfl) (de_tup (da_cons (de_sub (de_mod (de_var (pv 1)) (de_addA (de_mulA de_int (de_var (pv 2))) de_int)) (de_var (pv 2))) (da_cons (de_sub (de_mod (de_fdiv (de_var (pv 1)) de_int) (de_addA (de_mulA de_int (de_var (pv 2))) de_int)) (de_var (pv 2))) (da_cons (de_sub (de_mod (de_fdiv (de_var (pv 1)) de_int) de_int) de_int) da_nil))))))) (dss_cons (ds_if (dt_w (dw_and (dt_eq B (de_ix (de_var (pv 4)) de_int) de_int) (dw_and1 (dt_lt (de_ix (de_var (pv 4)) de_int) de_int)))) (dss_one (ds_set (i := 4) false sc__law_forms.nd rfl (by first | exact Or.inl rfl | exact Or.inr rfl) (de_tup (da_cons de_int (da_cons (de_neg (de_ix (de_var (pv 4)) de_int)) (da_cons (de_ix (de_var (pv 4)) de_int) da_nil)))))) dss_nil) (dss_cons (ds_if (dt_w (dw_and (dt_eq B (de_ix (de_var (pv 4)) de_int) (de_ix (de_var (pv 3)) de_int)) (dw_and1 (dt_gt (de_ix (de_var (pv 4)) de_int) (de_ix (de_var (pv 3)) de_int))))) (dss_one (ds_set (i := 4) false sc__law_forms.nd rfl (by first | exact Or.inl rfl | exact Or.inr rfl) (de_tup (da_cons (de_ix (de_var (pv 4)) de_int) (da_cons (de_ix (de_var (pv 3)) de_int) (da_cons (de_ix (de_var (pv 4)) de_int) da_nil)))))) dss_nil) (dss_one (ds_ret (de_tup (da_cons de_str (da_cons (de_var (pv 3)) (da_cons (de_var (pv 4)) da_nil)))))))))))).imp (fun os h => .inr rfl)
theorem ok__law_number (F : FnP K "_law_number" s__law_number f fd) (hm : mg "_law_number" = some (.ref f))  : Def P w K mg base "_law_number" 1 2 M__law_number :=
  (Def.ofD (N := N__law_number) F sc__law_number hm (FunD.bindsN (ps := ["_law_cell", "_law_most"]) F fun _ _ _ _ _ _ us hl => match us, hl with | [_, _], _ => rfl) rfl B__law_number (fun cdv A outer s H E Hf B => (dss_cons (ds_if (dt_eq B (de_mod (de_var (pv 0)) de_int) de_int) (dss_one (ds_ret (de_addA (de_sub (de_mod (de_fdiv (de_var (pv 0)) de_int) (de_sub (de_mulA de_int (de_var (pv 1))) de_int)) (de_var (pv 1))) de_int))) dss_nil) (dss_cons (ds_if (dt_eq B (de_mod (de_var (pv 0)) de_int) de_int) (dss_one (ds_ret (de_sub (de_mod (de_fdiv (de_var (pv 0)) de_int) de_int) de_int))) dss_nil) (dss_one (ds_ret (de_sub (de_mod (de_fdiv (de_var (pv 0)) de_int) de_int) de_int))))))).imp imp__law_number
theorem ok__law_divisor (F : FnP K "_law_divisor" s__law_divisor f fd) (hm : mg "_law_divisor" = some (.ref f)) (h_abs : mg "abs" = none) : Def P w K mg base "_law_divisor" 1 2 M__law_divisor :=
  (Def.ofD (N := N__law_divisor) F sc__law_divisor hm (FunD.bindsN (ps := ["_law_one", "_law_other"]) F fun _ _ _ _ _ _ us hl => match us, hl with | [_, _], _ => rfl) rfl B__law_divisor (fun cdv A outer s H E Hf B => (dss_cons (ds_set (i := 0) false sc__law_divisor.nd rfl (by first | exact Or.inl rfl | exact Or.inr rfl) (de_B call_abs pc_abs rfl h_abs (by decide +kernel) (da_cons (de_var (pv 0)) da_nil))) (dss_cons (ds_set (i := 1) false sc__law_divisor.nd rfl (by first | exact Or.inl rfl | exact Or.inr rfl) (de_B call_abs pc_abs rfl h_abs (by decide +kernel) (da_cons (de_var (pv 1)) da_nil))) (dss_cons (ds_wh (fun r => slotN 0 r + 1) B (dt_ne B (de_var (pv 0)) de_int) (dss_cons (ds_set (i := 2) false sc__law_divisor.nd rfl (by first | exact Or.inl rfl | exact Or.inr rfl) (de_mod (de_var (pv 1)) (de_var (pv 0)))) (dss_cons (ds_set (i := 1) false sc__law_divisor.nd rfl (by first | exact Or.inl rfl | exact Or.inr rfl) (de_var (pv 0))) (dss_one (ds_set (i := 0) false sc__law_divisor.nd rfl (by first | exact Or.inl rfl | exact Or.inr rfl) (de_var (pv 2))))))) (dss_one (ds_ret (de_var (pv 1))))))))).imp imp__law_divisor
theorem ok_is_choose (F : FnP K "is_choose" s_is_choose f fd) (hm : mg "is_choose" = some (.ref f)) (D_within : Def P w K mg base "within" 1 4 M_within) : Def P w K mg base "is_choose" 2 2 M_is_choose :=
  (Def.ofD (N := N_is_choose) F sc_is_choose hm (FunD.bindsN (ps := ["upper", "lower"]) F fun _ _ _ _ _ _ us hl => match us, hl with | [_, _], _ => rfl) rfl B_is_choose (fun cdv A outer s H E Hf B => (dss_cons (ds_if (dt_w (dw_or (dt_not (dt_val (de_call D_within B (by decide) rfl (da_cons (de_var (pv 0)) (da_cons de_int (da_cons de_int (da_cons de_int da_nil)))) rfl (hlen := (ar_cons (ar_cons (ar_cons (ar_cons ar_nil)))))))) (dw_or1 (dt_not (dt_val (de_call D_within B (by decide) rfl (da_cons (de_var (pv 1)) (da_cons (de_neg de_int) (da_cons de_int (da_cons de_int da_nil)))) rfl (hlen := (ar_cons (ar_cons (ar_cons (ar_cons ar_nil))))))))))) (dss_one (ds_ret de_bl)) dss_nil) (dss_cons (ds_for B (di_list (de_lst (da_cons (de_var (pv 1)) (da_cons (de_tup (da_cons (de_sub (de_ix (de_var (pv 0)) de_int) (de_ix (de_var (pv 1)) de_int)) (da_cons (de_sub (de_ix (de_var (pv 0)) de_int) (de_ix (de_var (pv 1)) de_int)) (da_cons (de_sub (de_ix (de_var (pv 0)) de_int) (de_ix (de_var (pv 1)) de_int)) da_nil)))) da_nil)))) (dg_name (i := 2) (vs := [2]) sc_is_choose.nd rfl (by first | exact Or.inl rfl | exact Or.inr rfl)) (dss_one (ds_if (dt_w (dw_and (dt_eq B (de_ix (de_var (pv 2)) de_int) de_int) (dw_and1 (dt_lt (de_ix (de_var (pv 2)) de_int) de_int)))) (dss_one (ds_ret de_bl)) dss_nil))) (dss_one (ds_ret de_bl)))))).imp (fun os h => .inr rfl)
theorem ok_pair_times (F : FnP K "pair_times" s_pair_times f fd) (hm : mg "pair_times" = some (.ref f)) (D_without_noughts : Def P w K mg base "without_noughts" 1 1 M_without_noughts) : Def P w K mg base "pair_times" 2 2 M_pair_times :=
  (Def.ofD (N := N_pair_times) F sc_pair_times hm (FunD.bindsN (ps := ["one", "other"]) F fun _ _ _ _ _ _ us hl => match us, hl with | [_, _], _ => rfl) rfl B_pair_times (fun cdv A outer s H E Hf B => (dss_cons (ds_set (i := 2) true sc_pair_times.nd rfl (by first | exact Or.inl rfl | exact Or.inr rfl) de_dnew) (dss_cons (ds_forDI (i := 0) (m := 3) (n := 4) B sc_pair_times.nd (pv 0) rfl rfl (by first | exact Or.inl rfl | exact Or.inr rfl) (by first | exact Or.inl rfl | exact Or.inr rfl) (by first | exact Or.inl rfl | exact Or.inr rfl) (by first | exact Or.inl rfl | exact Or.inr rfl) (fun c B => (dss_one (ds_forDI (i := 1) (m := 5) (n := 6) B sc_pair_times.nd (pv 1) rfl rfl (by first | exact Or.inl rfl | exact Or.inr rfl) (by first | exact Or.inl rfl | exact Or.inr rfl) (by first | exact Or.inl rfl | exact Or.inr rfl) (by first | exact Or.inl rfl | exact Or.inr rfl) (fun c B => (dss_cons (ds_set (i := 7) false sc_pair_times.nd rfl (by first | exact Or.inl rfl | exact Or.inr rfl) (de_tup (da_cons (de_addA (de_ix (de_var (pv 3)) de_int) (de_ix (de_var (pv 5)) de_int)) (da_cons (de_addA (de_ix (de_var (pv 3)) de_int) (de_ix (de_var (pv 5)) de_int)) da_nil)))) (dss_one (ds_dputL (i := 2) B (pv 2) (de_addA (de_dget2 (i := 2) B (pv 2) (de_var (pv 7)) pe_int ⟨rfl, rfl, rfl, rfl⟩) (de_mulA (de_var (pv 4)) (de_var (pv 6)))) (de_var (pv 7)))))))))) (dss_one (ds_ret (de_call D_without_noughts B (by decide) rfl (da_cons (de_var (pv 2)) da_nil) rfl (hlen := (ar_cons ar_nil))))))))).imp (fun os h => .inr rfl)
theorem ok_Growth_step {cn : Str} (F : FunD K "step" "Growth.step" (defArgs s_Growth_step) (defBody s_Growth_step) (defScope s_Growth_step) [] [] f fd) (cl : Cls K (He.ga K cn)) (hm : Meth K (He.ga K cn) "step" f) (D_raised : Def P w K mg base "raised" 1 2 M_raised) (fl_fraction : FldF K TF_fraction "fraction") : DefM P w K mg base cn "step" 2 3 M_Growth_step :=
  (DefM.ofD (N := N_Growth_step) F sc_Growth_step cl hm (FunD.bindsN (ps := ["self", "i", "far"]) F fun _ _ _ _ _ _ us hl => match us, hl with | [_, _, _], _ => rfl) rfl B_Growth_step (fun cdv A outer s H E Hf B => (dss_one (ds_ret (de_dspT B (dps_cons (de_tup (da_cons de_int (da_cons de_int da_nil))) (de_mulA (de_ix (de_call D_raised B (by decide) rfl (da_cons (de_fld fl_fraction (de_var (pv 0))) (da_cons (de_var (pv 1)) da_nil)) rfl (hlen := (ar_cons (ar_cons ar_nil)))) de_int) (de_ix (de_call D_raised B (by decide) rfl (da_cons (de_fld fl_fraction (de_var (pv 0))) (da_cons (de_sub (de_var (pv 2)) (de_var (pv 1))) da_nil)) rfl (hlen := (ar_cons (ar_cons ar_nil)))) de_int)) dps_nil)))))).imp (fun os h => .inr rfl)
theorem ok_pair_of_form (F : FnP K "pair_of_form" s_pair_of_form f fd) (hm : mg "pair_of_form" = some (.ref f)) (D_without_noughts : Def P w K mg base "without_noughts" 1 1 M_without_noughts) : Def P w K mg base "pair_of_form" 2 1 M_pair_of_form :=
  (Def.ofD (N := N_pair_of_form) F sc_pair_of_form hm (FunD.bindsN (ps := ["form"]) F fun _ _ _ _ _ _ us hl => match us, hl with | [_], _ => rfl) rfl B_pair_of_form (fun cdv A outer s H E Hf B => (dss_one (ds_ret (de_call D_without_noughts B (by decide) rfl (da_cons (de_dspT B (dps_cons (de_tup (da_cons de_int (da_cons de_int da_nil))) (de_ix (de_var (pv 0)) de_int) (dps_cons (de_tup (da_cons de_int (da_cons de_int da_nil))) (de_ix (de_var (pv 0)) de_int) (dps_cons (de_tup (da_cons de_int (da_cons de_int da_nil))) (de_ix (de_var (pv 0)) de_int) dps_nil)))) da_nil) rfl (hlen := (ar_cons ar_nil))))))).imp (fun os h => .inr rfl)
theorem ok__law_is_fraction (F : FnP K "_law_is_fraction" s__law_is_fraction f fd) (hm : mg "_law_is_fraction" = some (.ref f)) (h_isinstance : mg "isinstance" = none) (h_len : mg "len" = none) (h_tuple : mg "tuple" = none) (D__law_whole : Def P w K mg base "_law_whole" 1 1 M__law_whole) : Def P w K mg base "_law_is_fraction" 2 1 M__law_is_fraction :=
  (Def.ofD (N := N__law_is_fraction) F sc__law_is_fraction hm (FunD.bindsN (ps := ["_law_found"]) F fun _ _ _ _ _ _ us hl => match us, hl with | [_], _ => rfl) rfl B__law_is_fraction (fun cdv A outer s H E Hf B => (dss_cons (ds_if (dt_w (dw_or (dt_not (dt_val (de_isi .tup rfl h_isinstance (pe_bltn rfl h_tuple (by decide +kernel) rfl) (de_var (pv 0))))) (dw_or1 (dt_ne B (de_len rfl h_len (da_cons (de_var (pv 0)) da_nil)) de_int)))) (dss_one (ds_ret de_bl)) dss_nil) (dss_one (ds_ret (de_and (de_call D__law_whole B (by decide) rfl (da_cons (de_ix (de_var (pv 0)) de_int) da_nil) rfl (hlen := (ar_cons ar_nil))) (de_and (de_call D__law_whole B (by decide) rfl (da_cons (de_ix (de_var (pv 0)) de_int) da_nil) rfl (hlen := (ar_cons ar_nil))) (de_one (de_gt (de_ix (de_var (pv 0)) de_int) de_int))))))))).imp (fun os h => .inr rfl)
theorem ok_Weight_worth {cn : Str} (F : FunD K "worth" "Weight.worth" (defArgs s_Weight_worth) (defBody s_Weight_worth) (defScope s_Weight_worth) [] [] f fd) (cl : Cls K (He.ga K cn)) (hm : Meth K (He.ga K cn) "worth" f) (D_form_value : Def P w K mg base "form_value" 1 3 M_form_value) (fl_form : FldF K TF_form "form") : DefM P w K mg base cn "worth" 2 3 M_Weight_worth :=
  (DefM.ofD (N := N_Weight_worth) F sc_Weight_worth cl hm (FunD.bindsN (ps := ["self", "n", "k"]) F fun _ _ _ _ _ _ us hl => match us, hl with | [_, _, _], _ => rfl) rfl B_Weight_worth (fun cdv A outer s H E Hf B => (dss_one (ds_ret (de_tup (da_cons (de_call D_form_value B (by decide) rfl (da_cons (de_fld fl_form (de_var (pv 0))) (da_cons (de_var (pv 1)) (da_cons (de_var (pv 2)) da_nil))) rfl (hlen := (ar_cons (ar_cons (ar_cons ar_nil))))) (da_cons de_int da_nil))))))).imp (fun os h => .inr rfl)
theorem ok_Power_worth {cn : Str} (F : FunD K "worth" "Power.worth" (defArgs s_Power_worth) (defBody s_Power_worth) (defScope s_Power_worth) [] [] f fd) (cl : Cls K (He.ga K cn)) (hm : Meth K (He.ga K cn) "worth" f) (D_raised : Def P w K mg base "raised" 1 2 M_raised) (fl_fraction : FldF K TF_fraction "fraction") : DefM P w K mg base cn "worth" 2 3 M_Power_worth :=
  (DefM.ofD (N := N_Power_worth) F sc_Power_worth cl hm (FunD.bindsN (ps := ["self", "n", "k"]) F fun _ _ _ _ _ _ us hl => match us, hl with | [_, _, _], _ => rfl) rfl B_Power_worth (fun cdv A outer s H E Hf B => (dss_one (ds_ret (de_call D_raised B (by decide) rfl (da_cons (de_fld fl_fraction (de_var (pv 0))) (da_cons (de_var (pv 2)) da_nil)) rfl (hlen := (ar_cons (ar_cons ar_nil)))))))).imp (fun os h => .inr rfl)
theorem ok_Growth_worth {cn : Str} (F : FunD K "worth" "Growth.worth" (defArgs s_Growth_worth) (defBody s_Growth_worth) (defScope s_Growth_worth) [] [] f fd) (cl : Cls K (He.ga K cn)) (hm : Meth K (He.ga K cn) "worth" f) (D_raised : Def P w K mg base "raised" 1 2 M_raised) (fl_fraction : FldF K TF_fraction "fraction") : DefM P w K mg base cn "worth" 2 3 M_Growth_worth :=
  (DefM.ofD (N := N_Growth_worth) F sc_Growth_worth cl hm (FunD.bindsN (ps := ["self", "n", "k"]) F fun _ _ _ _ _ _ us hl => match us, hl with | [_, _, _], _ => rfl) rfl B_Growth_worth (fun cdv A outer s H E Hf B => (dss_one (ds_ret (de_call D_raised B (by decide) rfl (da_cons (de_fld fl_fraction (de_var (pv 0))) (da_cons (de_var (pv 1)) da_nil)) rfl (hlen := (ar_cons (ar_cons ar_nil)))))))).imp (fun os h => .inr rfl)
theorem ok_Power_floor {cn : Str} (F : FunD K "floor" "Power.floor" (defArgs s_Power_floor) (defBody s_Power_floor) (defScope s_Power_floor) [] [] f fd) (cl : Cls K (He.ga K cn)) (hm : Meth K (He.ga K cn) "floor" f) (D_raised : Def P w K mg base "raised" 1 2 M_raised) (fl_fraction : FldF K TF_fraction "fraction") : DefM P w K mg base cn "floor" 2 4 M_Power_floor :=
  (DefM.ofD (N := N_Power_floor) F sc_Power_floor cl hm (FunD.bindsN (ps := ["self", "n", "k", "far"]) F fun _ _ _ _ _ _ us hl => match us, hl with | [_, _, _, _], _ => rfl) rfl B_Power_floor (fun cdv A outer s H E Hf B => (dss_one (ds_ret (de_call D_raised B (by decide) rfl (da_cons (de_fld fl_fraction (de_var (pv 0))) (da_cons (de_var (pv 2)) da_nil)) rfl (hlen := (ar_cons (ar_cons ar_nil)))))))).imp (fun os h => .inr rfl)
theorem ok__law_ratio (F : FnP K "_law_ratio" s__law_ratio f fd) (hm : mg "_law_ratio" = some (.ref f)) (D__law_number : Def P w K mg base "_law_number" 1 2 M__law_number) (D__law_mixed : Def P w K mg base "_law_mixed" 1 2 M__law_mixed) (D__law_divisor : Def P w K mg base "_law_divisor" 1 2 M__law_divisor) : Def P w K mg base "_law_ratio" 2 2 M__law_ratio :=
  (Def.ofD (N := N__law_ratio) F sc__law_ratio hm (FunD.bindsN (ps := ["_law_one", "_law_other"]) F fun _ _ _ _ _ _ us hl => match us, hl with | [_, _], _ => rfl) rfl B__law_ratio (fun cdv A outer s H E Hf B => (dss_cons (ds_set (i := 2) false sc__law_ratio.nd rfl (by first | exact Or.inl rfl | exact Or.inr rfl) (de_call D__law_number B (by decide) rfl (da_cons (de_var (pv 0)) (da_cons (de_pow de_int de_int) da_nil)) rfl (hlen := (ar_cons (ar_cons ar_nil))))) (dss_cons (ds_if (dt_eq B (de_var (pv 2)) de_int) (dss_one (ds_set (i := 2) false sc__law_ratio.nd rfl (by first | exact Or.inl rfl | exact Or.inr rfl) de_int)) dss_nil) (dss_cons (ds_set (i := 3) false sc__law_ratio.nd rfl (by first | exact Or.inl rfl | exact Or.inr rfl) (de_call D__law_mixed B (by decide) rfl (da_cons (de_var (pv 1)) (da_cons de_int da_nil)) rfl (hlen := (ar_cons (ar_cons ar_nil))))) (dss_cons (ds_set (i := 4) false sc__law_ratio.nd rfl (by first | exact Or.inl rfl | exact Or.inr rfl) (de_ix (de_lst (da_cons de_int (da_cons (de_addA de_int (de_mod (de_fdiv (de_var (pv 3)) de_int) de_int)) (da_cons (de_addA de_int (de_mod (de_fdiv (de_var (pv 3)) de_int) (de_pow de_int de_int))) da_nil)))) (de_mod (de_var (pv 3)) de_int))) (dss_cons (ds_set (i := 5) false sc__law_ratio.nd rfl (by first | exact Or.inl rfl | exact Or.inr rfl) (de_call D__law_divisor B (by decide) rfl (da_cons (de_var (pv 2)) (da_cons (de_var (pv 4)) da_nil)) rfl (hlen := (ar_cons (ar_cons ar_nil))))) (dss_one (ds_ret (de_tup (da_cons (de_fdiv (de_var (pv 2)) (de_var (pv 5))) (da_cons (de_fdiv (de_var (pv 4)) (de_var (pv 5))) da_nil)))))))))))).imp (fun os h => .inr rfl)
theorem ok_made_part (F : FnP K "made_part" s_made_part f fd) (hm : mg "made_part" = some (.ref f)) (rx_NoTerm : DL.Rx K mg "NoTerm") (D_is_choose : Def P w K mg base "is_choose" 2 2 M_is_choose) (I_Choose : DefI P w K mg base "Choose" 1 2 M_Choose___init__) (I_Weight : DefI P w K mg base "Weight" 1 1 M_Weight___init__) (I_Power : DefI P w K mg base "Power" 1 1 M_Power___init__) (I_Growth : DefI P w K mg base "Growth" 1 1 M_Growth___init__) : Def P w K mg base "made_part" 3 1 M_made_part :=
  (Def.ofD (N := N_made_part) F sc_made_part hm (FunD.bindsN (ps := ["part"]) F fun _ _ _ _ _ _ us hl => match us, hl with | [_], _ => rfl) rfl B_made_part (fun cdv A outer s H E Hf B => (dss_cons (ds_set (i := 1) false sc_made_part.nd rfl (by first | exact Or.inl rfl | exact Or.inr rfl) (de_ix (de_var (pv 0)) de_int)) (dss_cons (ds_if (dt_w (dw_and (dt_eq B (de_var (pv 1)) de_str) (dw_and1 (dt_val (de_call D_is_choose B (by decide) rfl (da_cons (de_ix (de_var (pv 0)) de_int) (da_cons (de_ix (de_var (pv 0)) de_int) da_nil)) rfl (hlen := (ar_cons (ar_cons ar_nil)))))))) (dss_one (ds_ret (de_make I_Choose B (by decide) rfl (da_cons (de_ix (de_var (pv 0)) de_int) (da_cons (de_ix (de_var (pv 0)) de_int) da_nil)) (hlen := (ar_cons (ar_cons ar_nil)))))) dss_nil) (dss_cons (ds_if (dt_eq B (de_var (pv 1)) de_str) (dss_one (ds_ret (de_make I_Weight B (by decide) rfl (da_cons (de_ix (de_var (pv 0)) de_int) da_nil) (hlen := (ar_cons ar_nil))))) dss_nil) (dss_cons (ds_if (dt_w (dw_and (dt_eq B (de_var (pv 1)) de_str) (dw_and1 (dt_ne B (de_ix (de_ix (de_var (pv 0)) de_int) de_int) de_int)))) (dss_one (ds_ret (de_make I_Power B (by decide) rfl (da_cons (de_ix (de_var (pv 0)) de_int) da_nil) (hlen := (ar_cons ar_nil))))) dss_nil) (dss_cons (ds_if (dt_w (dw_and (dt_eq B (de_var (pv 1)) de_str) (dw_and1 (dt_ne B (de_ix (de_ix (de_var (pv 0)) de_int) de_int) de_int)))) (dss_one (ds_ret (de_make I_Growth B (by decide) rfl (da_cons (de_ix (de_var (pv 0)) de_int) da_nil) (hlen := (ar_cons ar_nil))))) dss_nil) (dss_one (ds_raise rx_NoTerm B rfl))))))))).imp (fun os h => .inr rfl)
theorem ok_Weight_step {cn : Str} (F : FunD K "step" "Weight.step" (defArgs s_Weight_step) (defBody s_Weight_step) (defScope s_Weight_step) [] [] f fd) (cl : Cls K (He.ga K cn)) (hm : Meth K (He.ga K cn) "step" f) (D_pair_of_form : Def P w K mg base "pair_of_form" 2 1 M_pair_of_form) (fl_form : FldF K TF_form "form") : DefM P w K mg base cn "step" 3 3 M_Weight_step :=
  (DefM.ofD (N := N_Weight_step) F sc_Weight_step cl hm (FunD.bindsN (ps := ["self", "i", "far"]) F fun _ _ _ _ _ _ us hl => match us, hl with | [_, _, _], _ => rfl) rfl B_Weight_step (fun cdv A outer s H E Hf B => (dss_one (ds_ret (de_call D_pair_of_form B (by decide) rfl (da_cons (de_tup (da_cons (de_ix (de_fld fl_form (de_var (pv 0))) de_int) (da_cons (de_ix (de_fld fl_form (de_var (pv 0))) de_int) (da_cons (de_addA (de_ix (de_fld fl_form (de_var (pv 0))) de_int) (de_mulA (de_var (pv 1)) (de_ix (de_fld fl_form (de_var (pv 0))) de_int))) da_nil)))) da_nil) rfl (hlen := (ar_cons ar_nil))))))).imp (fun os h => .inr rfl)
theorem ok_rising (F : FnP K "rising" s_rising f fd) (hm : mg "rising" = some (.ref f)) (h_range : mg "range" = none) (D_pair_times : Def P w K mg base "pair_times" 2 2 M_pair_times) (D_pair_of_form : Def P w K mg base "pair_of_form" 2 1 M_pair_of_form) : Def P w K mg base "rising" 3 3 M_rising :=
  (Def.ofD (N := N_rising) F sc_rising hm (FunD.bindsN (ps := ["form", "low", "high"]) F fun _ _ _ _ _ _ us hl => match us, hl with | [_, _, _], _ => rfl) rfl B_rising (fun cdv A outer s H E Hf B => (dss_cons (ds_set (i := 3) false sc_rising.nd rfl (by first | exact Or.inl rfl | exact Or.inr rfl) (de_dspT B (dps_cons (de_tup (da_cons de_int (da_cons de_int da_nil))) de_int dps_nil))) (dss_cons (ds_for B (di_rng2 rfl h_range (da_cons (de_var (pv 1)) (da_cons (de_addA (de_var (pv 2)) de_int) da_nil))) (dg_name (i := 4) (vs := [4]) sc_rising.nd rfl (by first | exact Or.inl rfl | exact Or.inr rfl)) (dss_one (ds_set (i := 3) false sc_rising.nd rfl (by first | exact Or.inl rfl | exact Or.inr rfl) (de_call D_pair_times B (by decide) rfl (da_cons (de_var (pv 3)) (da_cons (de_call D_pair_of_form B (by decide) rfl (da_cons (de_tup (da_cons (de_ix (de_var (pv 0)) de_int) (da_cons (de_ix (de_var (pv 0)) de_int) (da_cons (de_addA (de_ix (de_var (pv 0)) de_int) (de_var (pv 4))) da_nil)))) da_nil) rfl (hlen := (ar_cons ar_nil))) da_nil)) rfl (hlen := (ar_cons (ar_cons ar_nil))))))) (dss_one (ds_ret (de_var (pv 3)))))))).imp (fun os h => .inr rfl)
theorem ok__law_part (F : FnP K "_law_part" s__law_part f fd) (hm : mg "_law_part" = some (.ref f)) (h_tuple : mg "tuple" = none) (D__law_mixed : Def P w K mg base "_law_mixed" 1 2 M__law_mixed) (D__law_forms : Def P w K mg base "_law_forms" 1 3 M__law_forms) (D__law_ratio : Def P w K mg base "_law_ratio" 2 2 M__law_ratio) (D__law_number : Def P w K mg base "_law_number" 1 2 M__law_number) : Def P w K mg base "_law_part" 3 2 M__law_part :=
  (Def.ofD (N := N__law_part) F sc__law_part hm (FunD.bindsN (ps := ["_law_cells", "_law_most"]) F fun _ _ _ _ _ _ us hl => match us, hl with | [_, _], _ => rfl) rfl B__law_part (fun cdv A outer s H E Hf B => (dss_cons (ds_set (i := 2) false sc__law_part.nd rfl (by first | exact Or.inl rfl | exact Or.inr rfl) (de_mod (de_call D__law_mixed B (by decide) rfl (da_cons (de_ix (de_var (pv 0)) de_int) (da_cons de_int da_nil)) rfl (hlen := (ar_cons (ar_cons ar_nil)))) de_int)) (dss_cons (ds_if (dt_w (dw_and (dt_lt (de_var (pv 2)) de_int) (dw_and1 (dt_gt (de_var (pv 1)) de_int)))) (dss_one (ds_ret (de_call D__law_forms B (by decide) rfl (da_cons (de_call D__law_mixed B (by decide) rfl (da_cons (de_ix (de_var (pv 0)) de_int) (da_cons de_int da_nil)) rfl (hlen := (ar_cons (ar_cons ar_nil)))) (da_cons (de_call D__law_mixed B (by decide) rfl (da_cons (de_ix (de_var (pv 0)) de_int) (da_cons de_int da_nil)) rfl (hlen := (ar_cons (ar_cons ar_nil)))) (da_cons (de_var (pv 1)) da_nil))) rfl (hlen := (ar_cons (ar_cons (ar_cons ar_nil))))))) dss_nil) (dss_cons (ds_if (dt_eq B (de_var (pv 2)) de_int) (dss_one (ds_ret (de_tup (da_cons de_str (da_cons (de_call D__law_ratio B (by decide) rfl (da_cons (de_ix (de_var (pv 0)) de_int) (da_cons (de_ix (de_var (pv 0)) de_int) da_nil)) rfl (hlen := (ar_cons (ar_cons ar_nil)))) da_nil))))) dss_nil) (dss_cons (ds_if (dt_eq B (de_var (pv 2)) de_int) (dss_one (ds_ret (de_tup (da_cons de_str (da_cons (de_call D__law_ratio B (by decide) rfl (da_cons (de_ix (de_var (pv 0)) de_int) (da_cons (de_ix (de_var (pv 0)) de_int) da_nil)) rfl (hlen := (ar_cons (ar_cons ar_nil)))) da_nil))))) dss_nil) (dss_one (ds_ret (de_tup (da_cons de_str (da_cons (de_Ty call_tupleL pc_tup1 rfl h_tuple (by decide +kernel) (da_cons (de_lc (own := [("_law_cell", 3)]) B sc__law_part.nd (di_list (de_var (pv 0))) (blkOk_by (own := [("_law_cell", 3)]) (N := N__law_part) (sc := defScope s__law_part) (by decide +kernel)) (fun _ _ _ _ _ => (dg_name (i := 3) (vs := [3]) sc__law_part.nd rfl (by first | exact Or.inl rfl | exact Or.inr rfl))) (fun _ _ _ _ _ => (de_call D__law_number (Bk.blk B) (by decide) rfl (da_cons (de_var (pv 3)) (da_cons (de_pow de_int de_int) da_nil)) rfl (hlen := (ar_cons (ar_cons ar_nil)))))) da_nil)) da_nil))))))))))).imp (fun os h => .inr rfl)
theorem ok__law_parts (F : FnP K "_law_parts" s__law_parts f fd) (hm : mg "_law_parts" = some (.ref f)) (h_range : mg "range" = none) (D__law_part : Def P w K mg base "_law_part" 3 2 M__law_part) (D__law_cell_at : Def P w K mg base "_law_cell_at" 1 2 M__law_cell_at) : Def P w K mg base "_law_parts" 4 2 M__law_parts :=
  (Def.ofD (N := N__law_parts) F sc__law_parts hm (FunD.bindsN (ps := ["_law_script", "_law_mosts"]) F fun _ _ _ _ _ _ us hl => match us, hl with | [_, _], _ => rfl) rfl B__law_parts (fun cdv A outer s H E Hf B => (dss_cons (ds_set (i := 2) true sc__law_parts.nd rfl (by first | exact Or.inl rfl | exact Or.inr rfl) (de_lst da_nil)) (dss_cons (ds_for B (di_rng1 rfl h_range (da_cons (de_addA de_int (de_mod (de_call D__law_cell_at B (by decide) rfl (da_cons (de_var (pv 0)) (da_cons de_int da_nil)) rfl (hlen := (ar_cons (ar_cons ar_nil)))) de_int)) da_nil)) (dg_name (i := 3) (vs := [3]) sc__law_parts.nd rfl (by first | exact Or.inl rfl | exact Or.inr rfl)) (dss_cons (ds_set (i := 4) false sc__law_parts.nd rfl (by first | exact Or.inl rfl | exact Or.inr rfl) (de_call D__law_part B (by decide) rfl (da_cons (de_lc (own := [("_law_j", 5)]) B sc__law_parts.nd (di_rng1 rfl h_range (da_cons de_int da_nil)) (blkOk_by (own := [("_law_j", 5)]) (N := N__law_parts) (sc := defScope s__law_parts) (by decide +kernel)) (fun _ _ _ _ _ => (dg_name (i := 5) (vs := [5]) sc__law_parts.nd rfl (by first | exact Or.inl rfl | exact Or.inr rfl))) (fun _ _ _ _ _ => (de_call D__law_cell_at (Bk.blk B) (by decide) rfl (da_cons (de_var (pv 0)) (da_cons (de_addA (de_addA de_int (de_mulA de_int (de_var (pv 3)))) (de_var (pv 5))) da_nil)) rfl (hlen := (ar_cons (ar_cons ar_nil)))))) (da_cons (de_ix (de_var (pv 1)) de_int) da_nil)) rfl (hlen := (ar_cons (ar_cons ar_nil))))) (dss_cons (ds_if (dt_eq B (de_ix (de_var (pv 4)) de_int) de_str) (dss_one (ds_set (i := 1) false sc__law_parts.nd rfl (by first | exact Or.inl rfl | exact Or.inr rfl) (de_addA (de_sl (de_var (pv 1)) (dp_some de_int) dp_none) (de_lst (da_cons de_int da_nil))))) dss_nil) (dss_one (ds_app (i := 2) (pv 2) (de_var (pv 4))))))) (dss_one (ds_retV (pv 2))))))).imp (fun os h => .inr rfl)
theorem ok_Term___init__ {cn : Str} (hcn : cn = "Term") (F : FunD K "__init__" "Term.__init__" (defArgs s_Term___init__) (defBody s_Term___init__) (defScope s_Term___init__) [] [] f fd) (mk : Mk K (He.ga K cn) f) (hm : mg cn = some (.ref (He.ga K cn))) (h_len : mg "len" = none) (h_list : mg "list" = none) (rx_NoTerm : DL.Rx K mg "NoTerm") (c_MOST : ∃ t, mg "MOST" = some (.int 6 t)) (D_made_part : Def P w K mg base "made_part" 3 1 M_made_part) (fl_made : FldF K TF_made "made") (fl_words : FldF K TF_words "words") : DefI P w K mg base cn 4 1 M_Term___init__ := by
  subst hcn
  exact DefI.ofD (N := N_Term___init__) F sc_Term___init__ mk hm (FunD.bindsN (ps := ["self", "parts"]) F fun _ _ _ _ _ _ us hl => match us, hl with | [_, _], _ => rfl) rfl (by decide) B_Term___init__ M_Term___init__ (fun cdv A outer s H H0 E Hf B => (dss_cons (ds_if (dt_w (dw_or (dt_eq B (de_var (pv 1)) (de_lst da_nil)) (dw_or1 (dt_gt (de_len rfl h_len (da_cons (de_var (pv 1)) da_nil)) (de_c (pe_glob (v := .int 6) rfl c_MOST.choose_spec ⟨_, rfl⟩) (fun _ => rfl)))))) (dss_one (ds_raise rx_NoTerm B rfl)) dss_nil) (dss_cons (ds_fldM (i := 0) fl_made (pv 0) (de_lc (own := [("part", 2)]) B sc_Term___init__.nd (di_list (de_var (pv 1))) (blkOk_by (own := [("part", 2)]) (N := N_Term___init__) (sc := defScope s_Term___init__) (by decide +kernel)) (fun _ _ _ _ _ => (dg_name (i := 2) (vs := [2]) sc_Term___init__.nd rfl (by first | exact Or.inl rfl | exact Or.inr rfl))) (fun _ _ _ _ _ => (de_call D_made_part (Bk.blk B) (by decide) rfl (da_cons (de_var (pv 2)) da_nil) rfl (hlen := (ar_cons ar_nil)))))) (dss_one (ds_fldM (i := 0) fl_words (pv 0) (de_Ty call_list_of pc_list rfl h_list (by decide +kernel) (da_cons (de_var (pv 1)) da_nil))))))) imp_Term___init__
theorem ok_Choose_up {cn : Str} (F : FunD K "up" "Choose.up" (defArgs s_Choose_up) (defBody s_Choose_up) (defScope s_Choose_up) [] [] f fd) (cl : Cls K (He.ga K cn)) (hm : Meth K (He.ga K cn) "up" f) (D_rising : Def P w K mg base "rising" 3 3 M_rising) (D_pair_times : Def P w K mg base "pair_times" 2 2 M_pair_times) (D_Choose_raised_lows : DefM P w K mg base "Choose" "raised_lows" 1 2 M_Choose_raised_lows) (fl_high : FldF K TF_high "high") : DefM P w K mg base cn "up" 4 2 M_Choose_up :=
  (DefM.ofD (N := N_Choose_up) F sc_Choose_up cl hm (FunD.bindsN (ps := ["self", "far"]) F fun _ _ _ _ _ _ us hl => match us, hl with | [_, _], _ => rfl) rfl B_Choose_up (fun cdv A outer s H E Hf B => (dss_cons (ds_set (i := 2) false sc_Choose_up.nd rfl (by first | exact Or.inl rfl | exact Or.inr rfl) (de_call D_rising B (by decide) rfl (da_cons (de_fld fl_high (de_var (pv 0))) (da_cons de_int (da_cons (de_ix (de_fld fl_high (de_var (pv 0))) de_int) da_nil))) rfl (hlen := (ar_cons (ar_cons (ar_cons ar_nil)))))) (dss_cons (ds_for B (di_list (de_meth (pl := _) (tabCons ⟨_, by decide, D_Choose_raised_lows⟩ tabNil) B (de_var (pv 0)) (da_cons (de_var (pv 1)) da_nil) (fun r os h => congrArg (· + 1) ((ar_cons ar_nil) r os h)))) (dg_name (i := 3) (vs := [3]) sc_Choose_up.nd rfl (by first | exact Or.inl rfl | exact Or.inr rfl)) (dss_one (ds_set (i := 2) false sc_Choose_up.nd rfl (by first | exact Or.inl rfl | exact Or.inr rfl) (de_call D_pair_times B (by decide) rfl (da_cons (de_var (pv 2)) (da_cons (de_call D_rising B (by decide) rfl (da_cons (de_var (pv 3)) (da_cons (de_addA (de_ix (de_var (pv 3)) de_int) de_int) (da_cons de_int da_nil))) rfl (hlen := (ar_cons (ar_cons (ar_cons ar_nil))))) da_nil)) rfl (hlen := (ar_cons (ar_cons ar_nil))))))) (dss_one (ds_ret (de_var (pv 2)))))))).imp (fun os h => .inr rfl)
theorem ok_Choose_down {cn : Str} (F : FunD K "down" "Choose.down" (defArgs s_Choose_down) (defBody s_Choose_down) (defScope s_Choose_down) [] [] f fd) (cl : Cls K (He.ga K cn)) (hm : Meth K (He.ga K cn) "down" f) (D_pair_times : Def P w K mg base "pair_times" 2 2 M_pair_times) (D_rising : Def P w K mg base "rising" 3 3 M_rising) (D_Choose_raised_lows : DefM P w K mg base "Choose" "raised_lows" 1 2 M_Choose_raised_lows) : DefM P w K mg base cn "down" 4 2 M_Choose_down :=
  (DefM.ofD (N := N_Choose_down) F sc_Choose_down cl hm (FunD.bindsN (ps := ["self", "far"]) F fun _ _ _ _ _ _ us hl => match us, hl with | [_, _], _ => rfl) rfl B_Choose_down (fun cdv A outer s H E Hf B => (dss_cons (ds_set (i := 2) false sc_Choose_down.nd rfl (by first | exact Or.inl rfl | exact Or.inr rfl) (de_dspT B (dps_cons (de_tup (da_cons de_int (da_cons de_int da_nil))) de_int dps_nil))) (dss_cons (ds_for B (di_list (de_meth (pl := _) (tabCons ⟨_, by decide, D_Choose_raised_lows⟩ tabNil) B (de_var (pv 0)) (da_cons (de_var (pv 1)) da_nil) (fun r os h => congrArg (· + 1) ((ar_cons ar_nil) r os h)))) (dg_name (i := 3) (vs := [3]) sc_Choose_down.nd rfl (by first | exact Or.inl rfl | exact Or.inr rfl)) (dss_one (ds_set (i := 2) false sc_Choose_down.nd rfl (by first | exact Or.inl rfl | exact Or.inr rfl) (de_call D_pair_times B (by decide) rfl (da_cons (de_var (pv 2)) (da_cons (de_call D_rising B (by decide) rfl (da_cons (de_var (pv 3)) (da_cons de_int (da_cons (de_ix (de_var (pv 3)) de_int) da_nil))) rfl (hlen := (ar_cons (ar_cons (ar_cons ar_nil))))) da_nil)) rfl (hlen := (ar_cons (ar_cons ar_nil))))))) (dss_one (ds_ret (de_var (pv 2)))))))).imp (fun os h => .inr rfl)
theorem ok_Choose_step {cn : Str} (F : FunD K "step" "Choose.step" (defArgs s_Choose_step) (defBody s_Choose_step) (defScope s_Choose_step) [] [] f fd) (cl : Cls K (He.ga K cn)) (hm : Meth K (He.ga K cn) "step" f) (h_max : mg "max" = none) (D_rising : Def P w K mg base "rising" 3 3 M_rising) (D_pair_times : Def P w K mg base "pair_times" 2 2 M_pair_times) (fl_high : FldF K TF_high "high") (fl_lows : FldF K TF_lows "lows") : DefM P w K mg base cn "step" 4 3 M_Choose_step :=
  (DefM.ofD (N := N_Choose_step) F sc_Choose_step cl hm (FunD.bindsN (ps := ["self", "i", "far"]) F fun _ _ _ _ _ _ us hl => match us, hl with | [_, _, _], _ => rfl) rfl B_Choose_step (fun cdv A outer s H E Hf B => (dss_cons (ds_set (i := 3) false sc_Choose_step.nd rfl (by first | exact Or.inl rfl | exact Or.inr rfl) (de_call D_rising B (by decide) rfl (da_cons (de_fld fl_high (de_var (pv 0))) (da_cons de_int (da_cons (de_mulA (de_var (pv 1)) (de_ix (de_fld fl_high (de_var (pv 0))) de_int)) da_nil))) rfl (hlen := (ar_cons (ar_cons (ar_cons ar_nil)))))) (dss_cons (ds_for B (di_list (de_fld fl_lows (de_var (pv 0)))) (dg_name (i := 4) (vs := [4]) sc_Choose_step.nd rfl (by first | exact Or.inl rfl | exact Or.inr rfl)) (dss_one (ds_set (i := 3) false sc_Choose_step.nd rfl (by first | exact Or.inl rfl | exact Or.inr rfl) (de_call D_pair_times B (by decide) rfl (da_cons (de_var (pv 3)) (da_cons (de_call D_rising B (by decide) rfl (da_cons (de_var (pv 4)) (da_cons (de_addA (de_mulA (de_var (pv 1)) (de_ix (de_var (pv 4)) de_int)) de_int) (da_cons (de_B (call_max2 rfl) pc_max2 rfl h_max (by decide +kernel) (da_cons de_int (da_cons (de_mulA (de_var (pv 2)) (de_ix (de_var (pv 4)) de_int)) da_nil))) da_nil))) rfl (hlen := (ar_cons (ar_cons (ar_cons ar_nil))))) da_nil)) rfl (hlen := (ar_cons (ar_cons ar_nil))))))) (dss_one (ds_ret (de_var (pv 3)))))))).imp (fun os h => .inr rfl)
theorem ok_Term_frame {cn : Str} (F : FunD K "frame" "Term.frame" (defArgs s_Term_frame) (defBody s_Term_frame) (defScope s_Term_frame) [] [] f fd) (cl : Cls K (He.ga K cn)) (hm : Meth K (He.ga K cn) "frame" f) (h_enumerate : mg "enumerate" = none) (h_range : mg "range" = none) (D_pair_times : Def P w K mg base "pair_times" 2 2 M_pair_times) (D_Choose_up : DefM P w K mg base "Choose" "up" 4 2 M_Choose_up) (D_Weight_up : DefM P w K mg base "Weight" "up" 1 2 M_Part_up) (D_Power_up : DefM P w K mg base "Power" "up" 1 2 M_Power_up) (D_Growth_up : DefM P w K mg base "Growth" "up" 1 2 M_Part_up) (D_Choose_down : DefM P w K mg base "Choose" "down" 4 2 M_Choose_down) (D_Weight_down : DefM P w K mg base "Weight" "down" 1 2 M_Part_down) (D_Power_down : DefM P w K mg base "Power" "down" 1 2 M_Power_down) (D_Growth_down : DefM P w K mg base "Growth" "down" 1 2 M_Part_down) (D_Choose_step : DefM P w K mg base "Choose" "step" 4 3 M_Choose_step) (D_Weight_step : DefM P w K mg base "Weight" "step" 3 3 M_Weight_step) (D_Power_step : DefM P w K mg base "Power" "step" 1 3 M_Part_step) (D_Growth_step : DefM P w K mg base "Growth" "step" 2 3 M_Growth_step) (fl_made : FldF K TF_made "made") : DefM P w K mg base cn "frame" 5 2 M_Term_frame :=
  (DefM.ofD (N := N_Term_frame) F sc_Term_frame cl hm (FunD.bindsN (ps := ["self", "far"]) F fun _ _ _ _ _ _ us hl => match us, hl with | [_, _], _ => rfl) rfl B_Term_frame (fun cdv A outer s H E Hf B => (dss_cons (by first | exact (ds_lc (own := [("i", 6)]) (i := 2) false B sc_Term_frame.nd rfl rfl (sw_true rfl rfl rfl (by decide +kernel)) (di_rng1 rfl h_range (da_cons (de_addA (de_var (pv 1)) de_int) da_nil)) (blkOk_by (own := [("i", 6)]) (N := N_Term_frame) (sc := defScope s_Term_frame) (by decide +kernel)) (fun _ _ _ _ _ => (dg_name (i := 6) (vs := [6]) sc_Term_frame.nd rfl (by first | exact Or.inl rfl | exact Or.inr rfl))) (fun _ _ _ _ _ => (de_dspT (Bk.blk B) (dps_cons (de_tup (da_cons de_int (da_cons de_int da_nil))) de_int dps_nil)))) | exact (ds_set (i := 2) false sc_Term_frame.nd rfl (by first | exact Or.inl rfl | exact Or.inr rfl) (de_lc (own := [("i", 6)]) B sc_Term_frame.nd (di_rng1 rfl h_range (da_cons (de_addA (de_var (pv 1)) de_int) da_nil)) (blkOk_by (own := [("i", 6)]) (N := N_Term_frame) (sc := defScope s_Term_frame) (by decide +kernel)) (fun _ _ _ _ _ => (dg_name (i := 6) (vs := [6]) sc_Term_frame.nd rfl (by first | exact Or.inl rfl | exact Or.inr rfl))) (fun _ _ _ _ _ => (de_dspT (Bk.blk B) (dps_cons (de_tup (da_cons de_int (da_cons de_int da_nil))) de_int dps_nil)))))) (dss_cons (ds_set (i := 3) false sc_Term_frame.nd rfl (by first | exact Or.inl rfl | exact Or.inr rfl) (de_dspT B (dps_cons (de_tup (da_cons de_int (da_cons de_int da_nil))) de_int dps_nil))) (dss_cons (ds_set (i := 4) false sc_Term_frame.nd rfl (by first | exact Or.inl rfl | exact Or.inr rfl) (de_dspT B (dps_cons (de_tup (da_cons de_int (da_cons de_int da_nil))) de_int dps_nil))) (dss_cons (ds_for B (di_list (de_fld fl_made (de_var (pv 0)))) (dg_name (i := 5) (vs := [5]) sc_Term_frame.nd rfl (by first | exact Or.inl rfl | exact Or.inr rfl)) (dss_cons (by first | exact (ds_lc (own := [("i", 6), ("step", 7)]) (i := 2) false B sc_Term_frame.nd rfl rfl (sw_true rfl rfl rfl (by decide +kernel)) (di_enum rfl h_enumerate (de_var (pv 2))) (blkOk_by (own := [("i", 6), ("step", 7)]) (N := N_Term_frame) (sc := defScope s_Term_frame) (by decide +kernel)) (fun _ _ _ _ _ => (dg_tup rfl (dgs_cons (dg_name (i := 6) (vs := [6, 7]) sc_Term_frame.nd rfl (by first | exact Or.inl rfl | exact Or.inr rfl)) (dgs_cons (dg_name (i := 7) (vs := [6, 7]) sc_Term_frame.nd rfl (by first | exact Or.inl rfl | exact Or.inr rfl)) dgs_nil)))) (fun _ _ _ _ _ => (de_call D_pair_times (Bk.blk B) (by decide) rfl (da_cons (de_var (pv 7)) (da_cons (de_meth (pl := _) (tabCons ⟨_, by decide, D_Choose_step⟩ (tabCons ⟨_, by decide, D_Weight_step⟩ (tabCons ⟨_, by decide, D_Power_step⟩ (tabCons ⟨_, by decide, D_Growth_step⟩ tabNil)))) (Bk.blk B) (de_var (pv 5)) (da_cons (de_var (pv 6)) (da_cons (de_var (pv 1)) da_nil)) (fun r os h => congrArg (· + 1) ((ar_cons (ar_cons ar_nil)) r os h))) da_nil)) rfl (hlen := (ar_cons (ar_cons ar_nil)))))) | exact (ds_set (i := 2) false sc_Term_frame.nd rfl (by first | exact Or.inl rfl | exact Or.inr rfl) (de_lc (own := [("i", 6), ("step", 7)]) B sc_Term_frame.nd (di_enum rfl h_enumerate (de_var (pv 2))) (blkOk_by (own := [("i", 6), ("step", 7)]) (N := N_Term_frame) (sc := defScope s_Term_frame) (by decide +kernel)) (fun _ _ _ _ _ => (dg_tup rfl (dgs_cons (dg_name (i := 6) (vs := [6, 7]) sc_Term_frame.nd rfl (by first | exact Or.inl rfl | exact Or.inr rfl)) (dgs_cons (dg_name (i := 7) (vs := [6, 7]) sc_Term_frame.nd rfl (by first | exact Or.inl rfl | exact Or.inr rfl)) dgs_nil)))) (fun _ _ _ _ _ => (de_call D_pair_times (Bk.blk B) (by decide) rfl (da_cons (de_var (pv 7)) (da_cons (de_meth (pl := _) (tabCons ⟨_, by decide, D_Choose_step⟩ (tabCons ⟨_, by decide, D_Weight_step⟩ (tabCons ⟨_, by decide, D_Power_step⟩ (tabCons ⟨_, by decide, D_Growth_step⟩ tabNil)))) (Bk.blk B) (de_var (pv 5)) (da_cons (de_var (pv 6)) (da_cons (de_var (pv 1)) da_nil)) (fun r os h => congrArg (· + 1) ((ar_cons (ar_cons ar_nil)) r os h))) da_nil)) rfl (hlen := (ar_cons (ar_cons ar_nil)))))))) (dss_cons (ds_set (i := 3) false sc_Term_frame.nd rfl (by first | exact Or.inl rfl | exact Or.inr rfl) (de_call D_pair_times B (by decide) rfl (da_cons (de_var (pv 3)) (da_cons (de_meth (pl := _) (tabCons ⟨_, by decide, D_Choose_up⟩ (tabCons ⟨_, by decide, D_Weight_up⟩ (tabCons ⟨_, by decide, D_Power_up⟩ (tabCons ⟨_, by decide, D_Growth_up⟩ tabNil)))) B (de_var (pv 5)) (da_cons (de_var (pv 1)) da_nil) (fun r os h => congrArg (· + 1) ((ar_cons ar_nil) r os h))) da_nil)) rfl (hlen := (ar_cons (ar_cons ar_nil))))) (dss_one (ds_set (i := 4) false sc_Term_frame.nd rfl (by first | exact Or.inl rfl | exact Or.inr rfl) (de_call D_pair_times B (by decide) rfl (da_cons (de_var (pv 4)) (da_cons (de_meth (pl := _) (tabCons ⟨_, by decide, D_Choose_down⟩ (tabCons ⟨_, by decide, D_Weight_down⟩ (tabCons ⟨_, by decide, D_Power_down⟩ (tabCons ⟨_, by decide, D_Growth_down⟩ tabNil)))) B (de_var (pv 5)) (da_cons (de_var (pv 1)) da_nil) (fun r os h => congrArg (· + 1) ((ar_cons ar_nil) r os h))) da_nil)) rfl (hlen := (ar_cons (ar_cons ar_nil))))))))) (dss_one (ds_ret (de_tup (da_cons (de_var (pv 2)) (da_cons (de_var (pv 3)) (da_cons (de_var (pv 4)) da_nil)))))))))))).imp (fun os h => .inr rfl)
theorem ok_ratio (F : FnP K "ratio" s_ratio f fd) (hm : mg "ratio" = some (.ref f)) (rx_NoNumber : DL.Rx K mg "NoNumber") (SK : seerB K = true) (HT : P.given.tree = none) (D_divisor : Def P w K mg base "divisor" 1 2 M_divisor) : Def P w K mg base "ratio" 35 2 M_ratio :=
  (Def.ofD (N := N_ratio) F sc_ratio hm (FunD.bindsN (ps := ["top", "bottom"]) F fun _ _ _ _ _ _ us hl => match us, hl with | [_, _], _ => rfl) rfl B_ratio (fun cdv A outer s H E Hf B => (dss_cons (ds_if (dt_eq B (de_var (pv 1)) de_int) (dss_one (ds_raise rx_NoNumber B rfl)) dss_nil) (dss_cons (ds_set (i := 2) false sc_ratio.nd rfl (by first | exact Or.inl rfl | exact Or.inr rfl) (de_call D_divisor B (by decide) rfl (da_cons (de_var (pv 0)) (da_cons (de_var (pv 1)) da_nil)) rfl (hlen := (ar_cons (ar_cons ar_nil))))) (dss_cons (ds_if (dt_lt (de_var (pv 1)) de_int) (dss_one (ds_set (i := 2) false sc_ratio.nd rfl (by first | exact Or.inl rfl | exact Or.inr rfl) (de_neg (de_var (pv 2))))) dss_nil) (dss_one (ds_ret (de_tup (da_cons (de_fdivU B (by decide) (Wd.fn SK HT sc_ratio.gen sc_ratio.co) (de_var (pv 0)) (de_var (pv 2))) (da_cons (de_fdivU B (by decide) (Wd.fn SK HT sc_ratio.gen sc_ratio.co) (de_var (pv 1)) (de_var (pv 2))) da_nil)))))))))).imp imp_ratio
theorem ok_multiplied (F : FnP K "multiplied" s_multiplied f fd) (hm : mg "multiplied" = some (.ref f)) (D_ratio : Def P w K mg base "ratio" 35 2 M_ratio) : Def P w K mg base "multiplied" 36 2 M_multiplied :=
  (Def.ofD (N := N_multiplied) F sc_multiplied hm (FunD.bindsN (ps := ["one", "other"]) F fun _ _ _ _ _ _ us hl => match us, hl with | [_, _], _ => rfl) rfl B_multiplied (fun cdv A outer s H E Hf B => (dss_one (ds_ret (de_call D_ratio B (by decide) rfl (da_cons (de_mulA (de_ix (de_var (pv 0)) de_int) (de_ix (de_var (pv 1)) de_int)) (da_cons (de_mulA (de_ix (de_var (pv 0)) de_int) (de_ix (de_var (pv 1)) de_int)) da_nil)) rfl (hlen := (ar_cons (ar_cons ar_nil)))))))).imp (fun os h => .inr rfl)
theorem ok_Choose_floor {cn : Str} (F : FunD K "floor" "Choose.floor" (defArgs s_Choose_floor) (defBody s_Choose_floor) (defScope s_Choose_floor) [] [] f fd) (cl : Cls K (He.ga K cn)) (hm : Meth K (He.ga K cn) "floor" f) (D_ratio : Def P w K mg base "ratio" 35 2 M_ratio) (D_form_value : Def P w K mg base "form_value" 1 3 M_form_value) (D_factorial : Def P w K mg base "factorial" 1 1 M_factorial) (D_Choose_raised_lows : DefM P w K mg base "Choose" "raised_lows" 1 2 M_Choose_raised_lows) (fl_high : FldF K TF_high "high") : DefM P w K mg base cn "floor" 36 4 M_Choose_floor :=
  (DefM.ofD (N := N_Choose_floor) F sc_Choose_floor cl hm (FunD.bindsN (ps := ["self", "n", "k", "far"]) F fun _ _ _ _ _ _ us hl => match us, hl with | [_, _, _, _], _ => rfl) rfl B_Choose_floor (fun cdv A outer s H E Hf B => (dss_cons (ds_set (i := 4) false sc_Choose_floor.nd rfl (by first | exact Or.inl rfl | exact Or.inr rfl) de_int) (dss_cons (ds_for B (di_list (de_meth (pl := _) (tabCons ⟨_, by decide, D_Choose_raised_lows⟩ tabNil) B (de_var (pv 0)) (da_cons (de_var (pv 3)) da_nil) (fun r os h => congrArg (· + 1) ((ar_cons ar_nil) r os h)))) (dg_name (i := 5) (vs := [5]) sc_Choose_floor.nd rfl (by first | exact Or.inl rfl | exact Or.inr rfl)) (dss_cons (ds_set (i := 6) false sc_Choose_floor.nd rfl (by first | exact Or.inl rfl | exact Or.inr rfl) (de_call D_form_value B (by decide) rfl (da_cons (de_var (pv 5)) (da_cons (de_var (pv 1)) (da_cons (de_var (pv 2)) da_nil))) rfl (hlen := (ar_cons (ar_cons (ar_cons ar_nil)))))) (dss_cons (ds_if (dt_lt (de_var (pv 6)) de_int) (dss_one (ds_ret (de_tup (da_cons de_int (da_cons de_int da_nil))))) dss_nil) (dss_one (ds_augM (i := 4) sc_Choose_floor.nd rfl (by first | exact Or.inl rfl | exact Or.inr rfl) (de_call D_factorial B (by decide) rfl (da_cons (de_var (pv 6)) da_nil) rfl (hlen := (ar_cons ar_nil)))))))) (dss_one (ds_ret (de_call D_ratio B (by decide) rfl (da_cons (de_call D_factorial B (by decide) rfl (da_cons (de_call D_form_value B (by decide) rfl (da_cons (de_fld fl_high (de_var (pv 0))) (da_cons (de_var (pv 1)) (da_cons (de_var (pv 2)) da_nil))) rfl (hlen := (ar_cons (ar_cons (ar_cons ar_nil))))) da_nil) rfl (hlen := (ar_cons ar_nil))) (da_cons (de_var (pv 4)) da_nil)) rfl (hlen := (ar_cons (ar_cons ar_nil)))))))))).imp (fun os h => .inr rfl)
theorem ok_Growth_floor {cn : Str} (F : FunD K "floor" "Growth.floor" (defArgs s_Growth_floor) (defBody s_Growth_floor) (defScope s_Growth_floor) [] [] f fd) (cl : Cls K (He.ga K cn)) (hm : Meth K (He.ga K cn) "floor" f) (D_raised : Def P w K mg base "raised" 1 2 M_raised) (D_ratio : Def P w K mg base "ratio" 35 2 M_ratio) (fl_fraction : FldF K TF_fraction "fraction") : DefM P w K mg base cn "floor" 36 4 M_Growth_floor :=
  (DefM.ofD (N := N_Growth_floor) F sc_Growth_floor cl hm (FunD.bindsN (ps := ["self", "n", "k", "far"]) F fun _ _ _ _ _ _ us hl => match us, hl with | [_, _, _, _], _ => rfl) rfl B_Growth_floor (fun cdv A outer s H E Hf B => (dss_cons (ds_asgT (dg_tup rfl (dgs_cons (dg_name (i := 4) (vs := [4, 5]) sc_Growth_floor.nd rfl (by first | exact Or.inl rfl | exact Or.inr rfl)) (dgs_cons (dg_name (i := 5) (vs := [4, 5]) sc_Growth_floor.nd rfl (by first | exact Or.inl rfl | exact Or.inr rfl)) dgs_nil))) (de_call D_raised B (by decide) rfl (da_cons (de_fld fl_fraction (de_var (pv 0))) (da_cons (de_var (pv 1)) da_nil)) rfl (hlen := (ar_cons (ar_cons ar_nil))))) (dss_one (ds_ret (de_call D_ratio B (by decide) rfl (da_cons (de_var (pv 4)) (da_cons (de_mulA (de_var (pv 5)) (de_ix (de_call D_raised B (by decide) rfl (da_cons (de_fld fl_fraction (de_var (pv 0))) (da_cons (de_var (pv 3)) da_nil)) rfl (hlen := (ar_cons (ar_cons ar_nil)))) de_int)) da_nil)) rfl (hlen := (ar_cons (ar_cons ar_nil))))))))).imp (fun os h => .inr rfl)
theorem ok_Term_floor {cn : Str} (F : FunD K "floor" "Term.floor" (defArgs s_Term_floor) (defBody s_Term_floor) (defScope s_Term_floor) [] [] f fd) (cl : Cls K (He.ga K cn)) (hm : Meth K (He.ga K cn) "floor" f) (D_multiplied : Def P w K mg base "multiplied" 36 2 M_multiplied) (D_Choose_floor : DefM P w K mg base "Choose" "floor" 36 4 M_Choose_floor) (D_Weight_floor : DefM P w K mg base "Weight" "floor" 1 4 M_Part_floor) (D_Power_floor : DefM P w K mg base "Power" "floor" 2 4 M_Power_floor) (D_Growth_floor : DefM P w K mg base "Growth" "floor" 36 4 M_Growth_floor) (fl_made : FldF K TF_made "made") : DefM P w K mg base cn "floor" 37 4 M_Term_floor :=
  (DefM.ofD (N := N_Term_floor) F sc_Term_floor cl hm (FunD.bindsN (ps := ["self", "n", "k", "far"]) F fun _ _ _ _ _ _ us hl => match us, hl with | [_, _, _, _], _ => rfl) rfl B_Term_floor (fun cdv A outer s H E Hf B => (dss_cons (ds_set (i := 4) false sc_Term_floor.nd rfl (by first | exact Or.inl rfl | exact Or.inr rfl) (de_tup (da_cons de_int (da_cons de_int da_nil)))) (dss_cons (ds_for B (di_list (de_fld fl_made (de_var (pv 0)))) (dg_name (i := 5) (vs := [5]) sc_Term_floor.nd rfl (by first | exact Or.inl rfl | exact Or.inr rfl)) (dss_one (ds_set (i := 4) false sc_Term_floor.nd rfl (by first | exact Or.inl rfl | exact Or.inr rfl) (de_call D_multiplied B (by decide) rfl (da_cons (de_var (pv 4)) (da_cons (de_meth (pl := _) (tabCons ⟨_, by decide, D_Choose_floor⟩ (tabCons ⟨_, by decide, D_Weight_floor⟩ (tabCons ⟨_, by decide, D_Power_floor⟩ (tabCons ⟨_, by decide, D_Growth_floor⟩ tabNil)))) B (de_var (pv 5)) (da_cons (de_var (pv 1)) (da_cons (de_var (pv 2)) (da_cons (de_var (pv 3)) da_nil))) (fun r os h => congrArg (· + 1) ((ar_cons (ar_cons (ar_cons ar_nil))) r os h))) da_nil)) rfl (hlen := (ar_cons (ar_cons ar_nil))))))) (dss_one (ds_ret (de_var (pv 4)))))))).imp (fun os h => .inr rfl)
theorem ok_Choose_worth {cn : Str} (F : FunD K "worth" "Choose.worth" (defArgs s_Choose_worth) (defBody s_Choose_worth) (defScope s_Choose_worth) [] [] f fd) (cl : Cls K (He.ga K cn)) (hm : Meth K (He.ga K cn) "worth" f) (D_Choose_floor : DefM P w K mg base "Choose" "floor" 36 4 M_Choose_floor) : DefM P w K mg base cn "worth" 37 3 M_Choose_worth :=
  (DefM.ofD (N := N_Choose_worth) F sc_Choose_worth cl hm (FunD.bindsN (ps := ["self", "n", "k"]) F fun _ _ _ _ _ _ us hl => match us, hl with | [_, _, _], _ => rfl) rfl B_Choose_worth (fun cdv A outer s H E Hf B => (dss_one (ds_ret (de_meth (pl := _) (tabCons ⟨_, by decide, D_Choose_floor⟩ tabNil) B (de_var (pv 0)) (da_cons (de_var (pv 1)) (da_cons (de_var (pv 2)) (da_cons de_int da_nil))) (fun r os h => congrArg (· + 1) ((ar_cons (ar_cons (ar_cons ar_nil))) r os h))))))).imp (fun os h => .inr rfl)
theorem ok_Term_worth {cn : Str} (F : FunD K "worth" "Term.worth" (defArgs s_Term_worth) (defBody s_Term_worth) (defScope s_Term_worth) [] [] f fd) (cl : Cls K (He.ga K cn)) (hm : Meth K (He.ga K cn) "worth" f) (D_multiplied : Def P w K mg base "multiplied" 36 2 M_multiplied) (D_Choose_worth : DefM P w K mg base "Choose" "worth" 37 3 M_Choose_worth) (D_Weight_worth : DefM P w K mg base "Weight" "worth" 2 3 M_Weight_worth) (D_Power_worth : DefM P w K mg base "Power" "worth" 2 3 M_Power_worth) (D_Growth_worth : DefM P w K mg base "Growth" "worth" 2 3 M_Growth_worth) (fl_made : FldF K TF_made "made") : DefM P w K mg base cn "worth" 38 3 M_Term_worth :=
  (DefM.ofD (N := N_Term_worth) F sc_Term_worth cl hm (FunD.bindsN (ps := ["self", "n", "k"]) F fun _ _ _ _ _ _ us hl => match us, hl with | [_, _, _], _ => rfl) rfl B_Term_worth (fun cdv A outer s H E Hf B => (dss_cons (ds_set (i := 3) false sc_Term_worth.nd rfl (by first | exact Or.inl rfl | exact Or.inr rfl) (de_tup (da_cons de_int (da_cons de_int da_nil)))) (dss_cons (ds_for B (di_list (de_fld fl_made (de_var (pv 0)))) (dg_name (i := 4) (vs := [4]) sc_Term_worth.nd rfl (by first | exact Or.inl rfl | exact Or.inr rfl)) (dss_one (ds_set (i := 3) false sc_Term_worth.nd rfl (by first | exact Or.inl rfl | exact Or.inr rfl) (de_call D_multiplied B (by decide) rfl (da_cons (de_var (pv 3)) (da_cons (de_meth (pl := _) (tabCons ⟨_, by decide, D_Choose_worth⟩ (tabCons ⟨_, by decide, D_Weight_worth⟩ (tabCons ⟨_, by decide, D_Power_worth⟩ (tabCons ⟨_, by decide, D_Growth_worth⟩ tabNil)))) B (de_var (pv 4)) (da_cons (de_var (pv 1)) (da_cons (de_var (pv 2)) da_nil)) (fun r os h => congrArg (· + 1) ((ar_cons (ar_cons ar_nil)) r os h))) da_nil)) rfl (hlen := (ar_cons (ar_cons ar_nil))))))) (dss_one (ds_ret (de_var (pv 3)))))))).imp (fun os h => .inr rfl)
theorem ok__law_holds (F : FnP K "_law_holds" s__law_holds f fd) (hm : mg "_law_holds" = some (.ref f)) (h_range : mg "range" = none) (D__law_is_fraction : Def P w K mg base "_law_is_fraction" 2 1 M__law_is_fraction) (D__law_pair_at : Def P w K mg base "_law_pair_at" 1 3 M__law_pair_at) (D_Term_floor : DefM P w K mg base "Term" "floor" 37 4 M_Term_floor) (D_Term_worth : DefM P w K mg base "Term" "worth" 38 3 M_Term_worth) : Def P w K mg base "_law_holds" 39 5 M__law_holds :=
  (Def.ofD (N := N__law_holds) F sc__law_holds hm (FunD.bindsN (ps := ["_law_term", "_law_frame", "_law_far", "_law_n", "_law_k"]) F fun _ _ _ _ _ _ us hl => match us, hl with | [_, _, _, _, _], _ => rfl) rfl B__law_holds (fun cdv A outer s H E Hf B => (dss_cons (ds_set (i := 5) false sc__law_holds.nd rfl (by first | exact Or.inl rfl | exact Or.inr rfl) (de_meth (pl := _) (tabCons ⟨_, by decide, D_Term_floor⟩ tabNil) B (de_var (pv 0)) (da_cons (de_var (pv 3)) (da_cons (de_var (pv 4)) (da_cons (de_var (pv 2)) da_nil))) (fun r os h => congrArg (· + 1) ((ar_cons (ar_cons (ar_cons ar_nil))) r os h)))) (dss_cons (ds_set (i := 6) false sc__law_holds.nd rfl (by first | exact Or.inl rfl | exact Or.inr rfl) (de_meth (pl := _) (tabCons ⟨_, by decide, D_Term_floor⟩ tabNil) B (de_var (pv 0)) (da_cons (de_var (pv 3)) (da_cons (de_addA (de_var (pv 4)) de_int) (da_cons (de_var (pv 2)) da_nil))) (fun r os h => congrArg (· + 1) ((ar_cons (ar_cons (ar_cons ar_nil))) r os h)))) (dss_cons (ds_if (dt_w (dw_or (dt_not (dt_val (de_call D__law_is_fraction B (by decide) rfl (da_cons (de_var (pv 5)) da_nil) rfl (hlen := (ar_cons ar_nil))))) (dw_or1 (dt_not (dt_val (de_call D__law_is_fraction B (by decide) rfl (da_cons (de_var (pv 6)) da_nil) rfl (hlen := (ar_cons ar_nil)))))))) (dss_one (ds_ret de_bl)) dss_nil) (dss_cons (ds_for B (di_rng1 rfl h_range (da_cons (de_addA (de_var (pv 2)) de_int) da_nil)) (dg_name (i := 7) (vs := [7]) sc__law_holds.nd rfl (by first | exact Or.inl rfl | exact Or.inr rfl)) (dss_cons (ds_set (i := 8) false sc__law_holds.nd rfl (by first | exact Or.inl rfl | exact Or.inr rfl) (de_meth (pl := _) (tabCons ⟨_, by decide, D_Term_worth⟩ tabNil) B (de_var (pv 0)) (da_cons (de_addA (de_var (pv 3)) (de_var (pv 7))) (da_cons (de_var (pv 4)) da_nil)) (fun r os h => congrArg (· + 1) ((ar_cons (ar_cons ar_nil)) r os h)))) (dss_cons (ds_if (dt_not (dt_val (de_call D__law_is_fraction B (by decide) rfl (da_cons (de_var (pv 8)) da_nil) rfl (hlen := (ar_cons ar_nil))))) (dss_one (ds_ret de_bl)) dss_nil) (dss_one (ds_if (dt_ne B (de_mulA (de_ix (de_var (pv 8)) de_int) (de_ix (de_var (pv 5)) de_int)) (de_mulA (de_mulA (de_call D__law_pair_at B (by decide) rfl (da_cons (de_ix (de_ix (de_var (pv 1)) de_int) (de_var (pv 7))) (da_cons (de_var (pv 3)) (da_cons (de_var (pv 4)) da_nil))) rfl (hlen := (ar_cons (ar_cons (ar_cons ar_nil))))) (de_ix (de_var (pv 5)) de_int)) (de_ix (de_var (pv 8)) de_int))) (dss_one (ds_ret de_bl)) dss_nil))))) (dss_cons (ds_set (i := 9) false sc__law_holds.nd rfl (by first | exact Or.inl rfl | exact Or.inr rfl) (de_mulA (de_mulA (de_call D__law_pair_at B (by decide) rfl (da_cons (de_ix (de_var (pv 1)) de_int) (da_cons (de_var (pv 3)) (da_cons (de_var (pv 4)) da_nil))) rfl (hlen := (ar_cons (ar_cons (ar_cons ar_nil))))) (de_ix (de_var (pv 5)) de_int)) (de_ix (de_var (pv 6)) de_int))) (dss_one (ds_ret (de_eq B (de_var (pv 9)) (de_mulA (de_mulA (de_call D__law_pair_at B (by decide) rfl (da_cons (de_ix (de_var (pv 1)) de_int) (da_cons (de_var (pv 3)) (da_cons (de_var (pv 4)) da_nil))) rfl (hlen := (ar_cons (ar_cons (ar_cons ar_nil))))) (de_ix (de_var (pv 6)) de_int)) (de_ix (de_var (pv 5)) de_int)))))))))))).imp (fun os h => .inr rfl)
theorem ok_law (F : FnP K "law" s_law f fd) (D__law_parts : Def P w K mg base "_law_parts" 4 2 M__law_parts) (D__law_mixed : Def P w K mg base "_law_mixed" 1 2 M__law_mixed) (D__law_cell_at : Def P w K mg base "_law_cell_at" 1 2 M__law_cell_at) (D__law_holds : Def P w K mg base "_law_holds" 39 5 M__law_holds) (D_Term_frame : DefM P w K mg base "Term" "frame" 5 2 M_Term_frame) (I_Term : DefI P w K mg base "Term" 4 1 M_Term___init__) : FnOk P w K mg base CX0 40 f fd ["_law_script"] (DL.spLaw K) :=
  law_ok (N := N_law) F sc_law B_law (fun cdv A outer s H E Hf B => (dss_cons (ds_set (i := 1) false sc_law.nd rfl (by first | exact Or.inl rfl | exact Or.inr rfl) (de_call D__law_parts B (by decide) rfl (da_cons (de_var (pv 0)) (da_cons (de_lst (da_cons de_int (da_cons de_int da_nil))) da_nil)) rfl (hlen := (ar_cons (ar_cons ar_nil))))) (dss_cons (ds_set (i := 2) false sc_law.nd rfl (by first | exact Or.inl rfl | exact Or.inr rfl) (de_mod (de_call D__law_mixed B (by decide) rfl (da_cons (de_call D__law_cell_at B (by decide) rfl (da_cons (de_var (pv 0)) (da_cons de_int da_nil)) rfl (hlen := (ar_cons (ar_cons ar_nil)))) (da_cons de_int da_nil)) rfl (hlen := (ar_cons (ar_cons ar_nil)))) de_int)) (dss_cons (ds_set (i := 3) false sc_law.nd rfl (by first | exact Or.inl rfl | exact Or.inr rfl) (de_make I_Term B (by decide) rfl (da_cons (de_var (pv 1)) da_nil) (hlen := (ar_cons ar_nil)))) (dss_cons (ds_set (i := 4) false sc_law.nd rfl (by first | exact Or.inl rfl | exact Or.inr rfl) (de_meth (pl := _) (tabCons ⟨_, by decide, D_Term_frame⟩ tabNil) B (de_var (pv 3)) (da_cons (de_var (pv 2)) da_nil) (fun r os h => congrArg (· + 1) ((ar_cons ar_nil) r os h)))) (dss_cons (ds_set (i := 5) true sc_law.nd rfl (by first | exact Or.inl rfl | exact Or.inr rfl) (de_lst (da_cons (de_tup (da_cons de_int (da_cons de_int da_nil))) (da_cons (de_tup (da_cons de_int (da_cons de_int da_nil))) (da_cons (de_tup (da_cons de_int (da_cons de_int da_nil))) (da_cons (de_tup (da_cons de_int (da_cons de_int da_nil))) da_nil)))))) (dss_cons (ds_for B (di_list (de_sl (de_var (pv 0)) (dp_some de_int) (dp_some de_int))) (dg_name (i := 6) (vs := [6]) sc_law.nd rfl (by first | exact Or.inl rfl | exact Or.inr rfl)) (dss_cons (ds_set (i := 7) false sc_law.nd rfl (by first | exact Or.inl rfl | exact Or.inr rfl) (de_call D__law_mixed B (by decide) rfl (da_cons (de_var (pv 6)) (da_cons de_int da_nil)) rfl (hlen := (ar_cons (ar_cons ar_nil))))) (dss_cons (ds_set (i := 8) false sc_law.nd rfl (by first | exact Or.inl rfl | exact Or.inr rfl) de_int) (dss_cons (ds_if (dt_eq B (de_mod (de_var (pv 7)) de_int) de_int) (dss_one (ds_set (i := 8) false sc_law.nd rfl (by first | exact Or.inl rfl | exact Or.inr rfl) de_int)) dss_nil) (dss_one (ds_app (i := 5) (pv 5) (de_tup (da_cons (de_mod (de_fdiv (de_var (pv 7)) de_int) (de_var (pv 8))) (da_cons (de_mod (de_fdiv (de_fdiv (de_var (pv 7)) de_int) (de_var (pv 8))) (de_var (pv 8))) da_nil))))))))) (dss_frz 5 (dss_cons (ds_for B (di_list (de_var (pv 5))) (dg_tup rfl (dgs_cons (dg_name (i := 9) (vs := [9, 10]) sc_law.nd rfl (by first | exact Or.inl rfl | exact Or.inr rfl)) (dgs_cons (dg_name (i := 10) (vs := [9, 10]) sc_law.nd rfl (by first | exact Or.inl rfl | exact Or.inr rfl)) dgs_nil))) (dss_one (ds_if (dt_not (dt_val (de_call D__law_holds B (by decide) rfl (da_cons (de_var (pv 3)) (da_cons (de_var (pv 4)) (da_cons (de_var (pv 2)) (da_cons (de_var (pv 9)) (da_cons (de_var (pv 10)) da_nil))))) rfl (hlen := (ar_cons (ar_cons (ar_cons (ar_cons (ar_cons ar_nil))))))))) (dss_one (ds_ret de_bl)) dss_nil))) (dss_one (ds_ret de_bl))))))))))) hlaw
theorem facts {P : Program} {w : World} {K : PySem.W.Frag} {h : Heap} {mg : Str → Option Value} {f : Addr} (X : K.In h) (G : h.Ns mainGlobals mg) (hfa : mg ("law" : Str) = some (.ref f)) (c : He.SaysD fa fn K) (cx : ex K = true) (HT : P.given.tree = none) :
    ∃ fd : FuncData, (∀ (s : Shared) (v : Value), BindsTo s fd ⟨[v], []⟩ [("_law_script", v)]) ∧ ∀ base : Heap, K.In base → base.Ns mainGlobals mg → (∀ p ∈ csN K, LamX.TabB base mg p.1 p.2) → FnOk P w K mg base CX0 40 f fd ["_law_script"] (DL.spLaw K) := by
  obtain ⟨fd__law_mixed, F__law_mixed⟩ := c.def_ 0 (d := d__law_mixed) rfl
  obtain ⟨fd__law_cell_at, F__law_cell_at⟩ := c.def_ 1 (d := d__law_cell_at) rfl
  obtain ⟨fd_within, F_within⟩ := c.def_ 2 (d := d_within) rfl
  obtain ⟨fd_raised, F_raised⟩ := c.def_ 3 (d := d_raised) rfl
  obtain ⟨fd_without_noughts, F_without_noughts⟩ := c.def_ 4 (d := d_without_noughts) rfl
  obtain ⟨fd__law_pair_at, F__law_pair_at⟩ := c.def_ 5 (d := d__law_pair_at) rfl
  obtain ⟨fd_form_value, F_form_value⟩ := c.def_ 6 (d := d_form_value) rfl
  obtain ⟨fd_factorial, F_factorial⟩ := c.def_ 7 (d := d_factorial) rfl
  obtain ⟨fd_divisor, F_divisor⟩ := c.def_ 8 (d := d_divisor) rfl
  obtain ⟨fd__law_whole, F__law_whole⟩ := c.def_ 9 (d := d__law_whole) rfl
  obtain ⟨fd__law_forms, F__law_forms⟩ := c.def_ 10 (d := d__law_forms) rfl
  obtain ⟨fd__law_number, F__law_number⟩ := c.def_ 11 (d := d__law_number) rfl
  obtain ⟨fd__law_divisor, F__law_divisor⟩ := c.def_ 12 (d := d__law_divisor) rfl
  obtain ⟨fd_is_choose, F_is_choose⟩ := c.def_ 13 (d := d_is_choose) rfl
  obtain ⟨fd_pair_times, F_pair_times⟩ := c.def_ 14 (d := d_pair_times) rfl
  obtain ⟨fd_pair_of_form, F_pair_of_form⟩ := c.def_ 15 (d := d_pair_of_form) rfl
  obtain ⟨fd__law_is_fraction, F__law_is_fraction⟩ := c.def_ 16 (d := d__law_is_fraction) rfl
  obtain ⟨fd__law_ratio, F__law_ratio⟩ := c.def_ 17 (d := d__law_ratio) rfl
  obtain ⟨fd_made_part, F_made_part⟩ := c.def_ 18 (d := d_made_part) rfl
  obtain ⟨fd_rising, F_rising⟩ := c.def_ 19 (d := d_rising) rfl
  obtain ⟨fd__law_part, F__law_part⟩ := c.def_ 20 (d := d__law_part) rfl
  obtain ⟨fd__law_parts, F__law_parts⟩ := c.def_ 21 (d := d__law_parts) rfl
  obtain ⟨fd_ratio, F_ratio⟩ := c.def_ 22 (d := d_ratio) rfl
  obtain ⟨fd_multiplied, F_multiplied⟩ := c.def_ 23 (d := d_multiplied) rfl
  obtain ⟨fd__law_holds, F__law_holds⟩ := c.def_ 24 (d := d__law_holds) rfl
  obtain ⟨fd_law, F_law⟩ := c.def_ 25 (d := d_law) rfl
  obtain ⟨fd_Term_frame, F_Term_frame⟩ := c.def_ 26 (d := d_Term_frame) rfl
  obtain ⟨fd_Term_floor, F_Term_floor⟩ := c.def_ 27 (d := d_Term_floor) rfl
  obtain ⟨fd_Term_worth, F_Term_worth⟩ := c.def_ 28 (d := d_Term_worth) rfl
  obtain ⟨fd_Choose_up, F_Choose_up⟩ := c.def_ 29 (d := d_Choose_up) rfl
  obtain ⟨fd_Weight_up, F_Weight_up⟩ := c.def_ 30 (d := d_Weight_up) rfl
  obtain ⟨fd_Power_up, F_Power_up⟩ := c.def_ 31 (d := d_Power_up) rfl
  obtain ⟨fd_Growth_up, F_Growth_up⟩ := c.def_ 32 (d := d_Growth_up) rfl
  obtain ⟨fd_Choose_down, F_Choose_down⟩ := c.def_ 33 (d := d_Choose_down) rfl
  obtain ⟨fd_Weight_down, F_Weight_down⟩ := c.def_ 34 (d := d_Weight_down) rfl
  obtain ⟨fd_Power_down, F_Power_down⟩ := c.def_ 35 (d := d_Power_down) rfl
  obtain ⟨fd_Growth_down, F_Growth_down⟩ := c.def_ 36 (d := d_Growth_down) rfl
  obtain ⟨fd_Choose_step, F_Choose_step⟩ := c.def_ 37 (d := d_Choose_step) rfl
  obtain ⟨fd_Weight_step, F_Weight_step⟩ := c.def_ 38 (d := d_Weight_step) rfl
  obtain ⟨fd_Power_step, F_Power_step⟩ := c.def_ 39 (d := d_Power_step) rfl
  obtain ⟨fd_Growth_step, F_Growth_step⟩ := c.def_ 40 (d := d_Growth_step) rfl
  obtain ⟨fd_Choose_raised_lows, F_Choose_raised_lows⟩ := c.def_ 41 (d := d_Choose_raised_lows) rfl
  obtain ⟨fd_Choose_floor, F_Choose_floor⟩ := c.def_ 42 (d := d_Choose_floor) rfl
  obtain ⟨fd_Weight_floor, F_Weight_floor⟩ := c.def_ 43 (d := d_Weight_floor) rfl
  obtain ⟨fd_Power_floor, F_Power_floor⟩ := c.def_ 44 (d := d_Power_floor) rfl
  obtain ⟨fd_Growth_floor, F_Growth_floor⟩ := c.def_ 45 (d := d_Growth_floor) rfl
  obtain ⟨fd_Choose_worth, F_Choose_worth⟩ := c.def_ 46 (d := d_Choose_worth) rfl
  obtain ⟨fd_Weight_worth, F_Weight_worth⟩ := c.def_ 47 (d := d_Weight_worth) rfl
  obtain ⟨fd_Power_worth, F_Power_worth⟩ := c.def_ 48 (d := d_Power_worth) rfl
  obtain ⟨fd_Growth_worth, F_Growth_worth⟩ := c.def_ 49 (d := d_Growth_worth) rfl
  obtain ⟨fd_Term___init__, F_Term___init__⟩ := c.def_ 50 (d := d_Term___init__) rfl
  obtain ⟨fd_Choose___init__, F_Choose___init__⟩ := c.def_ 51 (d := d_Choose___init__) rfl
  obtain ⟨fd_Weight___init__, F_Weight___init__⟩ := c.def_ 52 (d := d_Weight___init__) rfl
  obtain ⟨fd_Power___init__, F_Power___init__⟩ := c.def_ 53 (d := d_Power___init__) rfl
  obtain ⟨fd_Growth___init__, F_Growth___init__⟩ := c.def_ 54 (d := d_Growth___init__) rfl
  have g_Choose : mg "Choose" = some (.ref (He.ga K "Choose")) := He.glo_ok X G (c.fact 26 (f := .glo "Choose") rfl)
  have g_Growth : mg "Growth" = some (.ref (He.ga K "Growth")) := He.glo_ok X G (c.fact 28 (f := .glo "Growth") rfl)
  have g_Power : mg "Power" = some (.ref (He.ga K "Power")) := He.glo_ok X G (c.fact 30 (f := .glo "Power") rfl)
  have g_Term : mg "Term" = some (.ref (He.ga K "Term")) := He.glo_ok X G (c.fact 32 (f := .glo "Term") rfl)
  have g_Weight : mg "Weight" = some (.ref (He.ga K "Weight")) := He.glo_ok X G (c.fact 34 (f := .glo "Weight") rfl)
  have h_abs : mg "abs" = none := He.free_ok X G (c.fact 72 (f := .free "abs") rfl)
  have h_bool : mg "bool" = none := He.free_ok X G (c.fact 73 (f := .free "bool") rfl)
  have h_enumerate : mg "enumerate" = none := He.free_ok X G (c.fact 74 (f := .free "enumerate") rfl)
  have h_int : mg "int" = none := He.free_ok X G (c.fact 75 (f := .free "int") rfl)
  have h_isinstance : mg "isinstance" = none := He.free_ok X G (c.fact 76 (f := .free "isinstance") rfl)
  have h_len : mg "len" = none := He.free_ok X G (c.fact 77 (f := .free "len") rfl)
  have h_list : mg "list" = none := He.free_ok X G (c.fact 78 (f := .free "list") rfl)
  have h_max : mg "max" = none := He.free_ok X G (c.fact 79 (f := .free "max") rfl)
  have h_min : mg "min" = none := He.free_ok X G (c.fact 80 (f := .free "min") rfl)
  have h_range : mg "range" = none := He.free_ok X G (c.fact 81 (f := .free "range") rfl)
  have h_tuple : mg "tuple" = none := He.free_ok X G (c.fact 82 (f := .free "tuple") rfl)
  have c_MOST : ∃ t, mg "MOST" = some (.int 6 t) := He.int_ok X G (c.fact 83 (f := .int "MOST" 6) rfl)
  have g_NoNumber : mg "NoNumber" = some (.ref (He.ga K "NoNumber")) := He.glo_ok X G (c.fact 84 (f := .glo "NoNumber") rfl)
  have g_NoTerm : mg "NoTerm" = some (.ref (He.ga K "NoTerm")) := He.glo_ok X G (c.fact 85 (f := .glo "NoTerm") rfl)
  have rx_NoNumber : DL.Rx K mg "NoNumber" := DL.Rx.of X G (c.fact 84 (f := .glo "NoNumber") rfl) (c.fact 86 (f := .exc "NoNumber") rfl)
  have rx_NoTerm : DL.Rx K mg "NoTerm" := DL.Rx.of X G (c.fact 85 (f := .glo "NoTerm") rfl) (c.fact 87 (f := .exc "NoTerm") rfl)
  have cl_Choose : Cls K (He.ga K "Choose") := He.cls_ok (c.fact 27 (f := .cls "Choose") rfl)
  have cl_Growth : Cls K (He.ga K "Growth") := He.cls_ok (c.fact 29 (f := .cls "Growth") rfl)
  have cl_Power : Cls K (He.ga K "Power") := He.cls_ok (c.fact 31 (f := .cls "Power") rfl)
  have cl_Term : Cls K (He.ga K "Term") := He.cls_ok (c.fact 33 (f := .cls "Term") rfl)
  have cl_Weight : Cls K (He.ga K "Weight") := He.cls_ok (c.fact 35 (f := .cls "Weight") rfl)
  have na_Choose_high : NoAttr K (He.ga K "Choose") "high" := He.noat_ok (c.fact 36 (f := .noat "Choose" "high") rfl)
  have na_Choose_lows : NoAttr K (He.ga K "Choose") "lows" := He.noat_ok (c.fact 37 (f := .noat "Choose" "lows") rfl)
  have na_Growth_fraction : NoAttr K (He.ga K "Growth") "fraction" := He.noat_ok (c.fact 38 (f := .noat "Growth" "fraction") rfl)
  have na_Power_fraction : NoAttr K (He.ga K "Power") "fraction" := He.noat_ok (c.fact 39 (f := .noat "Power" "fraction") rfl)
  have na_Term_made : NoAttr K (He.ga K "Term") "made" := He.noat_ok (c.fact 40 (f := .noat "Term" "made") rfl)
  have na_Term_words : NoAttr K (He.ga K "Term") "words" := He.noat_ok (c.fact 41 (f := .noat "Term" "words") rfl)
  have na_Weight_form : NoAttr K (He.ga K "Weight") "form" := He.noat_ok (c.fact 42 (f := .noat "Weight" "form") rfl)
  have fl_form : FldF K TF_form "form" := (fldCons cl_Weight na_Weight_form fldNil)
  have fl_fraction : FldF K TF_fraction "fraction" := (fldCons cl_Power na_Power_fraction (fldCons cl_Growth na_Growth_fraction fldNil))
  have fl_high : FldF K TF_high "high" := (fldCons cl_Choose na_Choose_high fldNil)
  have fl_lows : FldF K TF_lows "lows" := (fldCons cl_Choose na_Choose_lows fldNil)
  have fl_made : FldF K TF_made "made" := (fldCons cl_Term na_Term_made fldNil)
  have fl_words : FldF K TF_words "words" := (fldCons cl_Term na_Term_words fldNil)
  have me_Term_frame : Meth K (He.ga K "Term") "frame" (He.ma K (He.ga K "Term") "frame") := He.meth_ok (c.fact 43 (f := .meth "Term" "frame") rfl)
  have me_Term_floor : Meth K (He.ga K "Term") "floor" (He.ma K (He.ga K "Term") "floor") := He.meth_ok (c.fact 44 (f := .meth "Term" "floor") rfl)
  have me_Term_worth : Meth K (He.ga K "Term") "worth" (He.ma K (He.ga K "Term") "worth") := He.meth_ok (c.fact 45 (f := .meth "Term" "worth") rfl)
  have me_Choose_up : Meth K (He.ga K "Choose") "up" (He.ma K (He.ga K "Choose") "up") := He.meth_ok (c.fact 46 (f := .meth "Choose" "up") rfl)
  have me_Weight_up : Meth K (He.ga K "Weight") "up" (He.ma K (He.ga K "Weight") "up") := He.meth_ok (c.fact 47 (f := .meth "Weight" "up") rfl)
  have me_Power_up : Meth K (He.ga K "Power") "up" (He.ma K (He.ga K "Power") "up") := He.meth_ok (c.fact 48 (f := .meth "Power" "up") rfl)
  have me_Growth_up : Meth K (He.ga K "Growth") "up" (He.ma K (He.ga K "Growth") "up") := He.meth_ok (c.fact 49 (f := .meth "Growth" "up") rfl)
  have me_Choose_down : Meth K (He.ga K "Choose") "down" (He.ma K (He.ga K "Choose") "down") := He.meth_ok (c.fact 50 (f := .meth "Choose" "down") rfl)
  have me_Weight_down : Meth K (He.ga K "Weight") "down" (He.ma K (He.ga K "Weight") "down") := He.meth_ok (c.fact 51 (f := .meth "Weight" "down") rfl)
  have me_Power_down : Meth K (He.ga K "Power") "down" (He.ma K (He.ga K "Power") "down") := He.meth_ok (c.fact 52 (f := .meth "Power" "down") rfl)
  have me_Growth_down : Meth K (He.ga K "Growth") "down" (He.ma K (He.ga K "Growth") "down") := He.meth_ok (c.fact 53 (f := .meth "Growth" "down") rfl)
  have me_Choose_step : Meth K (He.ga K "Choose") "step" (He.ma K (He.ga K "Choose") "step") := He.meth_ok (c.fact 54 (f := .meth "Choose" "step") rfl)
  have me_Weight_step : Meth K (He.ga K "Weight") "step" (He.ma K (He.ga K "Weight") "step") := He.meth_ok (c.fact 55 (f := .meth "Weight" "step") rfl)
  have me_Power_step : Meth K (He.ga K "Power") "step" (He.ma K (He.ga K "Power") "step") := He.meth_ok (c.fact 56 (f := .meth "Power" "step") rfl)
  have me_Growth_step : Meth K (He.ga K "Growth") "step" (He.ma K (He.ga K "Growth") "step") := He.meth_ok (c.fact 57 (f := .meth "Growth" "step") rfl)
  have me_Choose_raised_lows : Meth K (He.ga K "Choose") "raised_lows" (He.ma K (He.ga K "Choose") "raised_lows") := He.meth_ok (c.fact 58 (f := .meth "Choose" "raised_lows") rfl)
  have me_Choose_floor : Meth K (He.ga K "Choose") "floor" (He.ma K (He.ga K "Choose") "floor") := He.meth_ok (c.fact 59 (f := .meth "Choose" "floor") rfl)
  have me_Weight_floor : Meth K (He.ga K "Weight") "floor" (He.ma K (He.ga K "Weight") "floor") := He.meth_ok (c.fact 60 (f := .meth "Weight" "floor") rfl)
  have me_Power_floor : Meth K (He.ga K "Power") "floor" (He.ma K (He.ga K "Power") "floor") := He.meth_ok (c.fact 61 (f := .meth "Power" "floor") rfl)
  have me_Growth_floor : Meth K (He.ga K "Growth") "floor" (He.ma K (He.ga K "Growth") "floor") := He.meth_ok (c.fact 62 (f := .meth "Growth" "floor") rfl)
  have me_Choose_worth : Meth K (He.ga K "Choose") "worth" (He.ma K (He.ga K "Choose") "worth") := He.meth_ok (c.fact 63 (f := .meth "Choose" "worth") rfl)
  have me_Weight_worth : Meth K (He.ga K "Weight") "worth" (He.ma K (He.ga K "Weight") "worth") := He.meth_ok (c.fact 64 (f := .meth "Weight" "worth") rfl)
  have me_Power_worth : Meth K (He.ga K "Power") "worth" (He.ma K (He.ga K "Power") "worth") := He.meth_ok (c.fact 65 (f := .meth "Power" "worth") rfl)
  have me_Growth_worth : Meth K (He.ga K "Growth") "worth" (He.ma K (He.ga K "Growth") "worth") := He.meth_ok (c.fact 66 (f := .meth "Growth" "worth") rfl)
  have mk_Term : Mk K (He.ga K "Term") (He.ma K (He.ga K "Term") "__init__") := He.mkr_ok (c.fact 67 (f := .mkr "Term") rfl)
  have mk_Choose : Mk K (He.ga K "Choose") (He.ma K (He.ga K "Choose") "__init__") := He.mkr_ok (c.fact 68 (f := .mkr "Choose") rfl)
  have mk_Weight : Mk K (He.ga K "Weight") (He.ma K (He.ga K "Weight") "__init__") := He.mkr_ok (c.fact 69 (f := .mkr "Weight") rfl)
  have mk_Power : Mk K (He.ga K "Power") (He.ma K (He.ga K "Power") "__init__") := He.mkr_ok (c.fact 70 (f := .mkr "Power") rfl)
  have mk_Growth : Mk K (He.ga K "Growth") (He.ma K (He.ga K "Growth") "__init__") := He.mkr_ok (c.fact 71 (f := .mkr "Growth") rfl)
  have SK : seerB K = true := ex_at cx 0 rfl
  have D__law_mixed : ∀ base : Heap, Def P w K mg base "_law_mixed" 1 2 M__law_mixed := fun base => ok__law_mixed F__law_mixed (He.glo_ok X G (c.fact 0 (f := .glo "_law_mixed") rfl)) h_abs h_range
  have D__law_cell_at : ∀ base : Heap, Def P w K mg base "_law_cell_at" 1 2 M__law_cell_at := fun base => ok__law_cell_at F__law_cell_at (He.glo_ok X G (c.fact 1 (f := .glo "_law_cell_at") rfl)) h_len
  have I_Choose : ∀ base : Heap, DefI P w K mg base "Choose" 1 2 M_Choose___init__ := fun base => ok_Choose___init__ rfl F_Choose___init__ mk_Choose (He.glo_ok X G (c.fact 26 (f := .glo "Choose") rfl))  fl_high fl_lows
  have I_Weight : ∀ base : Heap, DefI P w K mg base "Weight" 1 1 M_Weight___init__ := fun base => ok_Weight___init__ rfl F_Weight___init__ mk_Weight (He.glo_ok X G (c.fact 34 (f := .glo "Weight") rfl))  fl_form
  have I_Power : ∀ base : Heap, DefI P w K mg base "Power" 1 1 M_Power___init__ := fun base => ok_Power___init__ rfl F_Power___init__ mk_Power (He.glo_ok X G (c.fact 30 (f := .glo "Power") rfl))  fl_fraction
  have I_Growth : ∀ base : Heap, DefI P w K mg base "Growth" 1 1 M_Growth___init__ := fun base => ok_Growth___init__ rfl F_Growth___init__ mk_Growth (He.glo_ok X G (c.fact 28 (f := .glo "Growth") rfl))  fl_fraction
  have D_within : ∀ base : Heap, Def P w K mg base "within" 1 4 M_within := fun base => ok_within F_within (He.glo_ok X G (c.fact 2 (f := .glo "within") rfl)) h_abs h_max h_min
  have D_Weight_up : ∀ base : Heap, DefM P w K mg base "Weight" "up" 1 2 M_Part_up := fun base => ok_Part_up F_Weight_up cl_Weight me_Weight_up
  have D_Growth_up : ∀ base : Heap, DefM P w K mg base "Growth" "up" 1 2 M_Part_up := fun base => ok_Part_up F_Growth_up cl_Growth me_Growth_up
  have D_Power_up : ∀ base : Heap, DefM P w K mg base "Power" "up" 1 2 M_Power_up := fun base => ok_Power_up F_Power_up cl_Power me_Power_up  fl_fraction
  have D_Weight_down : ∀ base : Heap, DefM P w K mg base "Weight" "down" 1 2 M_Part_down := fun base => ok_Part_down F_Weight_down cl_Weight me_Weight_down
  have D_Growth_down : ∀ base : Heap, DefM P w K mg base "Growth" "down" 1 2 M_Part_down := fun base => ok_Part_down F_Growth_down cl_Growth me_Growth_down
  have D_Power_down : ∀ base : Heap, DefM P w K mg base "Power" "down" 1 2 M_Power_down := fun base => ok_Power_down F_Power_down cl_Power me_Power_down  fl_fraction
  have D_Power_step : ∀ base : Heap, DefM P w K mg base "Power" "step" 1 3 M_Part_step := fun base => ok_Part_step F_Power_step cl_Power me_Power_step
  have D_raised : ∀ base : Heap, Def P w K mg base "raised" 1 2 M_raised := fun base => ok_raised F_raised (He.glo_ok X G (c.fact 3 (f := .glo "raised") rfl)) h_range
  have D_without_noughts : ∀ base : Heap, Def P w K mg base "without_noughts" 1 1 M_without_noughts := fun base => ok_without_noughts F_without_noughts (He.glo_ok X G (c.fact 4 (f := .glo "without_noughts") rfl))
  have D_Choose_raised_lows : ∀ base : Heap, DefM P w K mg base "Choose" "raised_lows" 1 2 M_Choose_raised_lows := fun base => ok_Choose_raised_lows F_Choose_raised_lows cl_Choose me_Choose_raised_lows h_max fl_lows
  have D__law_pair_at : ∀ base : Heap, Def P w K mg base "_law_pair_at" 1 3 M__law_pair_at := fun base => ok__law_pair_at F__law_pair_at (He.glo_ok X G (c.fact 5 (f := .glo "_law_pair_at") rfl)) h_max h_range
  have D_form_value : ∀ base : Heap, Def P w K mg base "form_value" 1 3 M_form_value := fun base => ok_form_value F_form_value (He.glo_ok X G (c.fact 6 (f := .glo "form_value") rfl))
  have D_factorial : ∀ base : Heap, Def P w K mg base "factorial" 1 1 M_factorial := fun base => ok_factorial F_factorial (He.glo_ok X G (c.fact 7 (f := .glo "factorial") rfl)) h_range
  have D_divisor : ∀ base : Heap, Def P w K mg base "divisor" 1 2 M_divisor := fun base => ok_divisor F_divisor (He.glo_ok X G (c.fact 8 (f := .glo "divisor") rfl)) h_abs
  have D_Weight_floor : ∀ base : Heap, DefM P w K mg base "Weight" "floor" 1 4 M_Part_floor := fun base => ok_Part_floor F_Weight_floor cl_Weight me_Weight_floor
  have D__law_whole : ∀ base : Heap, Def P w K mg base "_law_whole" 1 1 M__law_whole := fun base => ok__law_whole F__law_whole (He.glo_ok X G (c.fact 9 (f := .glo "_law_whole") rfl)) h_bool h_int h_isinstance
  have D__law_forms : ∀ base : Heap, Def P w K mg base "_law_forms" 1 3 M__law_forms := fun base => ok__law_forms F__law_forms (He.glo_ok X G (c.fact 10 (f := .glo "_law_forms") rfl))
  have D__law_number : ∀ base : Heap, Def P w K mg base "_law_number" 1 2 M__law_number := fun base => ok__law_number F__law_number (He.glo_ok X G (c.fact 11 (f := .glo "_law_number") rfl))
  have D__law_divisor : ∀ base : Heap, Def P w K mg base "_law_divisor" 1 2 M__law_divisor := fun base => ok__law_divisor F__law_divisor (He.glo_ok X G (c.fact 12 (f := .glo "_law_divisor") rfl)) h_abs
  have D_is_choose : ∀ base : Heap, Def P w K mg base "is_choose" 2 2 M_is_choose := fun base => ok_is_choose F_is_choose (He.glo_ok X G (c.fact 13 (f := .glo "is_choose") rfl)) (D_within base)
  have D_pair_times : ∀ base : Heap, Def P w K mg base "pair_times" 2 2 M_pair_times := fun base => ok_pair_times F_pair_times (He.glo_ok X G (c.fact 14 (f := .glo "pair_times") rfl)) (D_without_noughts base)
  have D_Growth_step : ∀ base : Heap, DefM P w K mg base "Growth" "step" 2 3 M_Growth_step := fun base => ok_Growth_step F_Growth_step cl_Growth me_Growth_step (D_raised base) fl_fraction
  have D_pair_of_form : ∀ base : Heap, Def P w K mg base "pair_of_form" 2 1 M_pair_of_form := fun base => ok_pair_of_form F_pair_of_form (He.glo_ok X G (c.fact 15 (f := .glo "pair_of_form") rfl)) (D_without_noughts base)
  have D__law_is_fraction : ∀ base : Heap, Def P w K mg base "_law_is_fraction" 2 1 M__law_is_fraction := fun base => ok__law_is_fraction F__law_is_fraction (He.glo_ok X G (c.fact 16 (f := .glo "_law_is_fraction") rfl)) h_isinstance h_len h_tuple (D__law_whole base)
  have D_Weight_worth : ∀ base : Heap, DefM P w K mg base "Weight" "worth" 2 3 M_Weight_worth := fun base => ok_Weight_worth F_Weight_worth cl_Weight me_Weight_worth (D_form_value base) fl_form
  have D_Power_worth : ∀ base : Heap, DefM P w K mg base "Power" "worth" 2 3 M_Power_worth := fun base => ok_Power_worth F_Power_worth cl_Power me_Power_worth (D_raised base) fl_fraction
  have D_Growth_worth : ∀ base : Heap, DefM P w K mg base "Growth" "worth" 2 3 M_Growth_worth := fun base => ok_Growth_worth F_Growth_worth cl_Growth me_Growth_worth (D_raised base) fl_fraction
  have D_Power_floor : ∀ base : Heap, DefM P w K mg base "Power" "floor" 2 4 M_Power_floor := fun base => ok_Power_floor F_Power_floor cl_Power me_Power_floor (D_raised base) fl_fraction
  have D__law_ratio : ∀ base : Heap, Def P w K mg base "_law_ratio" 2 2 M__law_ratio := fun base => ok__law_ratio F__law_ratio (He.glo_ok X G (c.fact 17 (f := .glo "_law_ratio") rfl)) (D__law_number base) (D__law_mixed base) (D__law_divisor base)
  have D_made_part : ∀ base : Heap, Def P w K mg base "made_part" 3 1 M_made_part := fun base => ok_made_part F_made_part (He.glo_ok X G (c.fact 18 (f := .glo "made_part") rfl)) rx_NoTerm (D_is_choose base) (I_Choose base) (I_Weight base) (I_Power base) (I_Growth base)
  have D_Weight_step : ∀ base : Heap, DefM P w K mg base "Weight" "step" 3 3 M_Weight_step := fun base => ok_Weight_step F_Weight_step cl_Weight me_Weight_step (D_pair_of_form base) fl_form
  have D_rising : ∀ base : Heap, Def P w K mg base "rising" 3 3 M_rising := fun base => ok_rising F_rising (He.glo_ok X G (c.fact 19 (f := .glo "rising") rfl)) h_range (D_pair_times base) (D_pair_of_form base)
  have D__law_part : ∀ base : Heap, Def P w K mg base "_law_part" 3 2 M__law_part := fun base => ok__law_part F__law_part (He.glo_ok X G (c.fact 20 (f := .glo "_law_part") rfl)) h_tuple (D__law_mixed base) (D__law_forms base) (D__law_ratio base) (D__law_number base)
  have D__law_parts : ∀ base : Heap, Def P w K mg base "_law_parts" 4 2 M__law_parts := fun base => ok__law_parts F__law_parts (He.glo_ok X G (c.fact 21 (f := .glo "_law_parts") rfl)) h_range (D__law_part base) (D__law_cell_at base)
  have I_Term : ∀ base : Heap, DefI P w K mg base "Term" 4 1 M_Term___init__ := fun base => ok_Term___init__ rfl F_Term___init__ mk_Term (He.glo_ok X G (c.fact 32 (f := .glo "Term") rfl)) h_len h_list rx_NoTerm c_MOST (D_made_part base) fl_made fl_words
  have D_Choose_up : ∀ base : Heap, DefM P w K mg base "Choose" "up" 4 2 M_Choose_up := fun base => ok_Choose_up F_Choose_up cl_Choose me_Choose_up (D_rising base) (D_pair_times base) (D_Choose_raised_lows base) fl_high
  have D_Choose_down : ∀ base : Heap, DefM P w K mg base "Choose" "down" 4 2 M_Choose_down := fun base => ok_Choose_down F_Choose_down cl_Choose me_Choose_down (D_pair_times base) (D_rising base) (D_Choose_raised_lows base)
  have D_Choose_step : ∀ base : Heap, DefM P w K mg base "Choose" "step" 4 3 M_Choose_step := fun base => ok_Choose_step F_Choose_step cl_Choose me_Choose_step h_max (D_rising base) (D_pair_times base) fl_high fl_lows
  have D_Term_frame : ∀ base : Heap, DefM P w K mg base "Term" "frame" 5 2 M_Term_frame := fun base => ok_Term_frame F_Term_frame cl_Term me_Term_frame h_enumerate h_range (D_pair_times base) (D_Choose_up base) (D_Weight_up base) (D_Power_up base) (D_Growth_up base) (D_Choose_down base) (D_Weight_down base) (D_Power_down base) (D_Growth_down base) (D_Choose_step base) (D_Weight_step base) (D_Power_step base) (D_Growth_step base) fl_made
  have D_ratio : ∀ base : Heap, Def P w K mg base "ratio" 35 2 M_ratio := fun base => ok_ratio F_ratio (He.glo_ok X G (c.fact 22 (f := .glo "ratio") rfl)) rx_NoNumber SK HT (D_divisor base)
  have D_multiplied : ∀ base : Heap, Def P w K mg base "multiplied" 36 2 M_multiplied := fun base => ok_multiplied F_multiplied (He.glo_ok X G (c.fact 23 (f := .glo "multiplied") rfl)) (D_ratio base)
  have D_Choose_floor : ∀ base : Heap, DefM P w K mg base "Choose" "floor" 36 4 M_Choose_floor := fun base => ok_Choose_floor F_Choose_floor cl_Choose me_Choose_floor (D_ratio base) (D_form_value base) (D_factorial base) (D_Choose_raised_lows base) fl_high
  have D_Growth_floor : ∀ base : Heap, DefM P w K mg base "Growth" "floor" 36 4 M_Growth_floor := fun base => ok_Growth_floor F_Growth_floor cl_Growth me_Growth_floor (D_raised base) (D_ratio base) fl_fraction
  have D_Term_floor : ∀ base : Heap, DefM P w K mg base "Term" "floor" 37 4 M_Term_floor := fun base => ok_Term_floor F_Term_floor cl_Term me_Term_floor (D_multiplied base) (D_Choose_floor base) (D_Weight_floor base) (D_Power_floor base) (D_Growth_floor base) fl_made
  have D_Choose_worth : ∀ base : Heap, DefM P w K mg base "Choose" "worth" 37 3 M_Choose_worth := fun base => ok_Choose_worth F_Choose_worth cl_Choose me_Choose_worth  (D_Choose_floor base)
  have D_Term_worth : ∀ base : Heap, DefM P w K mg base "Term" "worth" 38 3 M_Term_worth := fun base => ok_Term_worth F_Term_worth cl_Term me_Term_worth (D_multiplied base) (D_Choose_worth base) (D_Weight_worth base) (D_Power_worth base) (D_Growth_worth base) fl_made
  have D__law_holds : ∀ base : Heap, Def P w K mg base "_law_holds" 39 5 M__law_holds := fun base => ok__law_holds F__law_holds (He.glo_ok X G (c.fact 24 (f := .glo "_law_holds") rfl)) h_range (D__law_is_fraction base) (D__law_pair_at base) (D_Term_floor base) (D_Term_worth base)
  have e := hfa.symm.trans (He.glo_ok X G (c.fact 25 (f := .glo "law") rfl))
  cases e
  have b := FunD.bindsA (ps := ["_law_script"]) F_law fun _ _ _ _ _ _ us hl => match us, hl with | [_], _ => rfl
  exact ⟨fd_law, fun s v => b s [v] rfl, fun base _ _ tb => ok_law F_law (D__law_parts base) (D__law_mixed base) (D__law_cell_at base) (D__law_holds base) (D_Term_frame base) (I_Term base)⟩
end Row
end
open PySem PySem.W PySem.Calls PyProof.Rows
set_option maxRecDepth 100000 in
set_option maxHeartbeats 0 in
theorem PySem.Challenge.cw_sumcraft_k55_whole_frames_hold_holds : PySem.Challenge.rw_sumcraft_k55_whole_frames_hold.Holds := by
  w_on; o_law
  refine HandSHeadRun.head_any (r := OpenLaw.row PySem.Challenge.rw_sumcraft_k55_whole_frames_hold) (q := view (OpenLaw.row PySem.Challenge.rw_sumcraft_k55_whole_frames_hold).prog [42]) (H := Row.hk) (ob := Row.ob) (M := 6000) (loose := Row.loose) (d := HandSHeadRun.topDef (OpenLaw.row PySem.Challenge.rw_sumcraft_k55_whole_frames_hold).prog 42) (kwd := []) Row.ob_eq
    (by kernel_rfl) (fun s => by kernel_rfl) Row.run (by kernel_rfl) (by kernel_rfl) (by kernel_rfl) (by rfl) (by first | assumption | decide +kernel) (by decide +kernel) ⟨rfl, rfl, rfl, rfl, rfl, by decide +kernel⟩ ?hw ?hc
  case hw => w_witness2
  case hc =>
    refine DL.walk_ofN (l := PySem.Challenge.rw_sumcraft_k55_whole_frames_hold) (n := 63) (k := 40) (x := "_law_script") (CX := L2.CX0) rfl (by decide) (by kernel_rfl) ⟨rfl, by decide, by decide⟩ ?F (fun _ _ _ _ z => z)
    intro w mg fa h K KX c cx G hmg0
    have hmg : mg ("law" : PySem.Str) = some (.ref fa) := by
      have e : (HandSHeadRun.topDef (OpenLaw.row PySem.Challenge.rw_sumcraft_k55_whole_frames_hold).prog 42).name = ("law" : PySem.Str) := by kernel_rfl
      rw [← e]
      exact hmg0
    obtain ⟨fd, hb, hF⟩ := Row.facts (P := (PySem.Challenge.rw_sumcraft_k55_whole_frames_hold).prog) (w := w) KX G hmg c cx (by rfl)
    exact ⟨fd, DL.spLaw K, hb, fun H a ns hl _ ht hS => ⟨a, ns, rfl, hS, hl, ht, fun _ => rfl⟩, hF⟩
