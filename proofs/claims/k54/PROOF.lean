import PyProof.Rows.All
import Wide.All
import OpenK.AllK
import Wide.FinOn
import HandS.ForMost
import HandS.IsInst
import HandS.TupAny
import HandS.Deep
import HandS.SortInts
import HandS.Zip
import HandS.Style
import HandS.DictTup
import KE.KeyNested
import HandS.Nested
import HandS.Conv
import KE.GoesEnum
import HandS.Strs
import HandS.More
import KE.KDictDisplayH
import HandS.TupMul
import HandS.Call
import HandS.Rev
import KE.DataCmp
import KE.SortData
import PyProof.MinMaxWalk
import KE.KDictWalk
import KE.KDictList
import KE.SortCalls
import HandS.SetFor
import PyProof.AutoSeq1
import PySem.Challenge.RW_bringhome_k54_shown_beats_of_anything
set_option Elab.async false
set_option linter.all false
set_option autoImplicit false
set_option maxRecDepth 100000
set_option maxHeartbeats 2000000
/-! Q: a def of the text as a plain function over data and a list of changeable objects. -/
namespace Q
open PySem L2

/-- data: what never changes, and places of what may -/
inductive D where
  | non | bl (b : Bool) | int (i : Int) | str (s : Str) | tup (xs : List D) | fl (xs : List D) | par (xs : List D) | ref (n : Nat) | lam (k : Nat) (xs : List D)
/-- what may change -/
inductive Ob where
  | lst (xs : List D) | dct (kvs : List (D × D)) | dcr (kvs : List (D × D)) | tab (q : Str)
/-- an expression's outcome: data, or a new object that nobody else holds -/
inductive Out where
  | v (d : D) | o (b : Ob)
abbrev Mem := List Ob
abbrev Env := List (Option D)
abbrev E := Env → Mem → Option (Out × Mem)
abbrev B := Env → Mem → Option (Bool × Mem)
abbrev A := Env → Mem → Option (List D × Mem)
inductive R where
  | nx (ρ : Env) (m : Mem) | rt (r : Out) (m : Mem) | bk (ρ : Env) (m : Mem) | ct (ρ : Env) (m : Mem)
abbrev S := Env → Mem → Option R
abbrev Fn := List D → Mem → Option (Out × Mem)

/-- within the line -/
def fits (n : Nat) : Prop := n ≤ sizeLine
noncomputable instance (n : Nat) : Decidable (fits n) := Classical.propDecidable _
@[simp] theorem fits_of {n : Nat} (h : n ≤ 100000) : fits n := Nat.le_trans h (by decide)

/-! ### how data lies in the layer's heap -/
def FlAt (K : PySem.W.Frag) (H : Hp) (a : Addr) (xs : List V) : Prop :=
  (∃ o, H a = some (.frz o (.lst xs))) ∨
    ∃ (o : Obj) (its : Array Value) (n : Nat), K.lookup a = some o ∧ o.cls = .type "list" ∧ o.dict = none ∧ o.data = .seq its n ∧ its.size ≤ sizeLine ∧ Vals xs its.toList
theorem FlAt.sq {K : PySem.W.Frag} {H : Hp} {a : Addr} {xs : List V} (h : FlAt K H a xs) : SqL K H a xs := by
  rcases h with ⟨o, h⟩ | h
  · exact .inl (.inr ⟨o, h⟩)
  · exact .inr h
/-- a plain tuple -/
def TpAt (K : PySem.W.Frag) (H : Hp) (a : Addr) (xs : List V) : Prop :=
  (∃ o, H a = some (.frz o (.tup xs)) ∧ o.dict = none) ∨
    ∃ (o : Obj) (its : Array Value) (n : Nat), K.lookup a = some o ∧ o.cls = .type "tuple" ∧ o.dict = none ∧ o.data = .seq its n ∧ its.size ≤ sizeLine ∧ Vals xs its.toList
theorem TpAt.sq {K : PySem.W.Frag} {H : Hp} {a : Addr} {xs : List V} (h : TpAt K H a xs) : SqT K H a xs := by
  rcases h with ⟨o, h, _⟩ | ⟨o, its, n, h1, h2, _, h3⟩
  · exact .inl (.inr ⟨o, h⟩)
  · exact .inr ⟨o, its, n, h1, h2, h3⟩
/-- a tuple that a walk has made, to be taken apart -/
def PrAt (H : Hp) (a : Addr) (xs : List V) : Prop := H a = some (.tup xs)
/-- what never changes while it is so -/
def Fz : HO → Prop
  | .tup _ => True
  | .frz _ _ => True
  | _ => False
/-- a thing that is known to the object -/
def FzO (a : Addr) (o : Obj) : HO := .frz o (.ext fun h => h.get? a = some o)
theorem FzO.ok {P : Program} {w : World} {H : Hp} {h : Heap} {a : Addr} {o : Obj} (e : h.get? a = some o) : ObjOk P w H h a (FzO a o) := ⟨e, e, ⟨o, e⟩, fun h1 h2 q k => k _ q⟩
/-- a code object's name -/
def CodeNm (o : Obj) (q : Str) : Prop := ∃ (vs : Array Value) (t : Tok), o.data = .fields vs ∧ vs[1]? = some (.str q t)
/-- what a lambda's body answers: 0: len(x) <= c; 1: all([y in c for y in x]) -/
def lamB (K : PySem.W.Frag) (H : Hp) : Nat → V → List Int → Bool → Prop
  | 0, w, ns, b => ∃ i : Int, w = .int i ∧ b = decide ((ns.length : Int) ≤ i)
  | 1, w, ns, b => ∃ (c : Addr) (ms : List Int), w = .ref c ∧ TpAt K H c (ms.map V.int) ∧ b = ns.all fun x => decide (x ∈ ms)
  | _, _, _, _ => False
def lamT (K : PySem.W.Frag) (k : Nat) : TE := fun σ H Q => ∃ (a : Addr) (ns : List Int) (w : V) (b : Bool), σ[0]? = some (some (.ref a)) ∧ TpAt K H a (ns.map V.int) ∧ σ[1]? = some (some w) ∧ k + 2 ≤ σ.length ∧ lamB K H k w ns b ∧
  ∀ H', (∀ a o, H a = some o → H' a = some o) → Q (.bl b) H'
/-- the text of a lambda with one parameter that captures one name -/
structure LamX where
  params : Arguments
  body : Expr
  scope : Scope
  prm : Str
  cap : Str
  N : List Str
/-- its body keeps what is told of it, in any frame of its own -/
structure LamSem (K : PySem.W.Frag) (k : Nat) (L : LamX) : Prop where
  sc : NdefX.NScope L.N [L.prm] [L.cap] L.scope
  nn : k + 2 ≤ L.N.length
  bind : ∀ (q : Str) (cl : List (Str × Addr)) (pm cv ctv u : Value), bindArgs (PySem.W.kla_fn "<lambda>" q L.params L.body L.scope cl pm cv ctv) ⟨[u], []⟩ = pure [(L.prm, u)]
  run : ∀ (P : Program) (w : World) (mg : Str → Option Value) (base : Heap), K.In base → base.Ns mainGlobals mg → ∀ (q : Str) (cl : List (Str × Addr)) (c f : Addr) (A : Around) (outer : List PySem.Env) (s : Shared) (H : Hp) (E : XK), Room 1 (A.deeper (NdefX.envF ⟨"<lambda>", q, L.params, [], L.scope, cl, c⟩ f s.heap.objs.size)) →
    PE (NdefX.ncx CX0 P w K mg base L.N ⟨"<lambda>", q, L.params, [], L.scope, cl, c⟩ f A outer s H E) L.body (lamT K k)
/-- a lambda in the heap: its function, its cell, its code object are known -/
def LamAt (K : PySem.W.Frag) (H : Hp) (k : Nat) (f : Addr) (vs : List V) : Prop := ∃ (L : LamX) (q : Str) (c cell : Addr) (pm ctv : Value) (ocd ocl : Obj) (v : V) (u : Value), vs = [v] ∧ LamSem K k L ∧
  H f = some (FzO f (PySem.W.kla_obj "<lambda>" q L.params L.body L.scope [(L.cap, cell)] pm c ctv)) ∧ H c = some (FzO c ocd) ∧ CodeNm ocd q ∧ H cell = some (FzO cell ocl) ∧ ocl.data = .cell (some u) ∧ RelV v u
mutual
inductive RV (K : PySem.W.Frag) (ι : List Addr) (H : Hp) : D → V → Prop
  | non : RV K ι H .non .non
  | bl (b : Bool) : RV K ι H (.bl b) (.bl b)
  | int (i : Int) : RV K ι H (.int i) (.int i)
  | str (s : Str) : RV K ι H (.str s) (.str s)
  | tup {a : Addr} {vs : List V} {ds : List D} : TpAt K H a vs → RVs K ι H ds vs → RV K ι H (.tup ds) (.ref a)
  | fl {a : Addr} {vs : List V} {ds : List D} : FlAt K H a vs → RVs K ι H ds vs → RV K ι H (.fl ds) (.ref a)
  | par {a : Addr} {vs : List V} {ds : List D} : PrAt H a vs → RVs K ι H ds vs → RV K ι H (.par ds) (.ref a)
  | ref {n : Nat} {a : Addr} : ι[n]? = some a → RV K ι H (.ref n) (.ref a)
  | lam {a : Addr} {k : Nat} {vs : List V} {ds : List D} : LamAt K H k a vs → RVs K ι H ds vs → RV K ι H (.lam k ds) (.ref a)
inductive RVs (K : PySem.W.Frag) (ι : List Addr) (H : Hp) : List D → List V → Prop
  | nil : RVs K ι H [] []
  | cons {d : D} {v : V} {ds : List D} {vs : List V} : RV K ι H d v → RVs K ι H ds vs → RVs K ι H (d :: ds) (v :: vs)
end
/-- the layer's heap goes on: what can't change stays, and what is not in ι; new places were free -/
structure Le (ι : List Addr) (H : Hp) (ι' : List Addr) (H' : Hp) : Prop where
  pre : ∃ nw, ι' = ι ++ nw ∧ ∀ a ∈ nw, H a = none
  keep : ∀ a o, H a = some o → (Fz o ∨ a ∉ ι) → H' a = some o
theorem Le.refl (ι : List Addr) (H : Hp) : Le ι H ι H := ⟨⟨[], by simp, by simp⟩, fun _ _ h _ => h⟩
theorem Le.trans {ι ι1 ι2 : List Addr} {H H1 H2 : Hp} (p : Le ι H ι1 H1) (q : Le ι1 H1 ι2 H2) (g : ∀ a ∈ ι, H1 a ≠ none) : Le ι H ι2 H2 := by
  obtain ⟨n1, e1, f1⟩ := p.pre
  obtain ⟨n2, e2, f2⟩ := q.pre
  refine ⟨⟨n1 ++ n2, by rw [e2, e1, List.append_assoc], fun a ha => ?_⟩, fun a o h c => ?_⟩
  · rcases List.mem_append.mp ha with h | h
    · exact f1 a h
    · have h1 := f2 a h
      cases q0 : H a with
      | none => rfl
      | some o =>
        by_cases hi : a ∈ ι
        · exact absurd h1 (g a hi)
        · rw [p.keep a o q0 (.inr hi)] at h1; cases h1
  · refine q.keep a o (p.keep a o h c) (c.imp id fun hi hm => ?_)
    rw [e1] at hm
    rcases List.mem_append.mp hm with z | z
    · exact hi z
    · rw [f1 a z] at h; cases h
theorem Le.ix {ι ι' : List Addr} {H H' : Hp} (p : Le ι H ι' H') {n : Nat} {a : Addr} (h : ι[n]? = some a) : ι'[n]? = some a := by
  obtain ⟨nw, e, _⟩ := p.pre
  rw [e, List.getElem?_append_left (List.getElem?_eq_some_iff.mp h).1]
  exact h
/-- the weaker one: what can't change stays -/
structure Kp (ι : List Addr) (H : Hp) (ι' : List Addr) (H' : Hp) : Prop where
  ix : ∀ (n : Nat) (a : Addr), ι[n]? = some a → ι'[n]? = some a
  kp : ∀ a o, H a = some o → Fz o → H' a = some o
theorem Le.k {ι ι' : List Addr} {H H' : Hp} (p : Le ι H ι' H') : Kp ι H ι' H' := ⟨fun _ _ h => p.ix h, fun a o h c => p.keep a o h (.inl c)⟩
theorem Kp.rdT {K : PySem.W.Frag} {ι ι' : List Addr} {H H' : Hp} (p : Kp ι H ι' H') {a : Addr} {vs : List V} (h : TpAt K H a vs) : TpAt K H' a vs := by
  rcases h with ⟨o, h, hd⟩ | h
  · exact .inl ⟨o, p.kp _ _ h trivial, hd⟩
  · exact .inr h
theorem Kp.rdF {K : PySem.W.Frag} {ι ι' : List Addr} {H H' : Hp} (p : Kp ι H ι' H') {a : Addr} {vs : List V} (h : FlAt K H a vs) : FlAt K H' a vs := by
  rcases h with ⟨o, h⟩ | h
  · exact .inl ⟨o, p.kp _ _ h trivial⟩
  · exact .inr h
theorem Kp.rdL {K : PySem.W.Frag} {ι ι' : List Addr} {H H' : Hp} (p : Kp ι H ι' H') {a : Addr} {k : Nat} {vs : List V} (h : LamAt K H k a vs) : LamAt K H' k a vs := by
  obtain ⟨L, q, c, cell, pm, ctv, ocd, ocl, v, u, h1, h2, h4, h5, h6, h7, h8⟩ := h
  exact ⟨L, q, c, cell, pm, ctv, ocd, ocl, v, u, h1, h2, p.kp _ _ h4 trivial, p.kp _ _ h5 trivial, h6, p.kp _ _ h7 trivial, h8⟩
section
variable {K : PySem.W.Frag} {ι ι' : List Addr} {H H' : Hp}
mutual
theorem RV.kp (p : Kp ι H ι' H') : ∀ {d : D} {v : V}, RV K ι H d v → RV K ι' H' d v
  | _, _, .non => .non
  | _, _, .bl b => .bl b
  | _, _, .int i => .int i
  | _, _, .str s => .str s
  | _, _, .tup h r => .tup (p.rdT h) (RVs.kp p r)
  | _, _, .fl h r => .fl (p.rdF h) (RVs.kp p r)
  | _, _, .par h r => .par (p.kp _ _ h trivial) (RVs.kp p r)
  | _, _, .ref h => .ref (p.ix _ _ h)
  | _, _, .lam h r => .lam (p.rdL h) (RVs.kp p r)
theorem RVs.kp (p : Kp ι H ι' H') : ∀ {ds : List D} {vs : List V}, RVs K ι H ds vs → RVs K ι' H' ds vs
  | _, _, .nil => .nil
  | _, _, .cons h r => .cons (RV.kp p h) (RVs.kp p r)
end
theorem RV.mono (p : Le ι H ι' H') {d : D} {v : V} (h : RV K ι H d v) : RV K ι' H' d v := h.kp p.k
theorem RVs.mono (p : Le ι H ι' H') {ds : List D} {vs : List V} (h : RVs K ι H ds vs) : RVs K ι' H' ds vs := h.kp p.k
theorem RVs.length : ∀ {ds : List D} {vs : List V}, RVs K ι H ds vs → ds.length = vs.length
  | _, _, .nil => rfl
  | _, _, .cons _ r => by simp [RVs.length r]
theorem RVs.get : ∀ {ds : List D} {vs : List V} {i : Nat} {d : D}, RVs K ι H ds vs → ds[i]? = some d → ∃ v, vs[i]? = some v ∧ RV K ι H d v
  | _, _, _, _, .nil, e => by simp at e
  | _, _, 0, _, .cons r _, e => by simp at e; subst e; exact ⟨_, rfl, r⟩
  | _, _, i + 1, d, .cons _ t, e => by
    obtain ⟨u, h1, h2⟩ := RVs.get (i := i) (d := d) t (by simpa using e)
    exact ⟨u, by simpa using h1, h2⟩
theorem RVs.append : ∀ {xs ys : List D} {us ws : List V}, RVs K ι H xs us → RVs K ι H ys ws → RVs K ι H (xs ++ ys) (us ++ ws)
  | _, _, _, _, .nil, s => s
  | _, _, _, _, .cons r t, s => .cons r (RVs.append t s)
theorem RVs.take : ∀ {xs : List D} {us : List V} (n : Nat), RVs K ι H xs us → RVs K ι H (xs.take n) (us.take n)
  | _, _, 0, _ => by simp; exact .nil
  | _, _, _ + 1, .nil => .nil
  | _, _, n + 1, .cons r t => .cons r (RVs.take n t)
theorem RVs.drop : ∀ {xs : List D} {us : List V} (n : Nat), RVs K ι H xs us → RVs K ι H (xs.drop n) (us.drop n)
  | _, _, 0, r => r
  | _, _, _ + 1, .nil => .nil
  | _, _, n + 1, .cons _ t => RVs.drop n t
theorem RVs.set {x : D} {u : V} (r : RV K ι H x u) : ∀ {xs : List D} {us : List V} (i : Nat), RVs K ι H xs us → RVs K ι H (xs.set i x) (us.set i u)
  | _, _, _, .nil => .nil
  | _, _, 0, .cons _ t => .cons r t
  | _, _, i + 1, .cons q t => .cons q (RVs.set r i t)
theorem RVs.reverse {xs : List D} {us : List V} (r : RVs K ι H xs us) : RVs K ι H xs.reverse us.reverse := by
  induction r using RVs.rec (motive_1 := fun _ _ _ => True) with
  | nil => exact .nil
  | cons h _ _ ih => rw [List.reverse_cons, List.reverse_cons]; exact ih.append (.cons h .nil)
  | _ => trivial
theorem RVs.eraseIdx : ∀ {xs : List D} {us : List V} (n : Nat), RVs K ι H xs us → RVs K ι H (xs.eraseIdx n) (us.eraseIdx n)
  | _, _, _, .nil => .nil
  | _, _, 0, .cons r t => t
  | _, _, n + 1, .cons r t => .cons r (RVs.eraseIdx n t)
theorem RVs.ints : ∀ (ns : List Int), RVs K ι H (ns.map D.int) (ns.map V.int)
  | [] => .nil
  | n :: r => .cons (.int n) (RVs.ints r)
/-- data without places, read backward -/
theorem RVs.of_ints : ∀ {ns : List Int} {vs : List V}, RVs K ι H (ns.map D.int) vs → vs = ns.map V.int
  | [], _, .nil => rfl
  | n :: r, _, .cons h t => by cases h; rw [RVs.of_ints (ns := r) t]; rfl
theorem RVs.of_bls : ∀ {ns : List Bool} {vs : List V}, RVs K ι H (ns.map D.bl) vs → vs = ns.map V.bl
  | [], _, .nil => rfl
  | n :: r, _, .cons h t => by cases h; rw [RVs.of_bls (ns := r) t]; rfl
theorem RVs.of_strs : ∀ {ns : List Str} {vs : List V}, RVs K ι H (ns.map D.str) vs → vs = ns.map V.str
  | [], _, .nil => rfl
  | n :: r, _, .cons h t => by cases h; rw [RVs.of_strs (ns := r) t]; rfl
theorem RVs.strs : ∀ (ns : List Str), RVs K ι H (ns.map D.str) (ns.map V.str)
  | [] => .nil
  | n :: r => .cons (.str n) (RVs.strs r)
end

/-- a dict: in the layer's two forms -/
def kD : Key → D
  | .inl i => .int i
  | .inr x => .str x
/-- a dict with any keys that have no texts: by its entries -/
def RawO (a : Addr) (es : Array DictEntry) : HO := .ext fun h => DT.Raw h a es es.size
mutual
def kN : NestedKey → D
  | .none => .non
  | .num i => .int i
  | .text x => .str x
  | .tup ks => .tup (kNs ks)
def kNs : List NestedKey → List D
  | [] => []
  | k :: ks => kN k :: kNs ks
end
mutual
inductive KN (K : PySem.W.Frag) (H : Hp) : NestedKey → V → Prop
  | non : KN K H .none .non
  | num (i : Int) : KN K H (.num i) (.int i)
  | tup {a : Addr} {vs : List V} {ks : List NestedKey} : TpAt K H a vs → KNs K H ks vs → KN K H (.tup ks) (.ref a)
inductive KNs (K : PySem.W.Frag) (H : Hp) : List NestedKey → List V → Prop
  | nil : KNs K H [] []
  | cons {k : NestedKey} {v : V} {ks : List NestedKey} {vs : List V} : KN K H k v → KNs K H ks vs → KNs K H (k :: ks) (v :: vs)
end
section
variable {K : PySem.W.Frag} {ι ι' : List Addr} {H H' : Hp}
mutual
theorem KN.kp (p : Kp ι H ι' H') : ∀ {k : NestedKey} {v : V}, KN K H k v → KN K H' k v
  | _, _, .non => .non
  | _, _, .num i => .num i
  | _, _, .tup h r => .tup (p.rdT h) (KNs.kp p r)
theorem KNs.kp (p : Kp ι H ι' H') : ∀ {k : List NestedKey} {v : List V}, KNs K H k v → KNs K H' k v
  | _, _, .nil => .nil
  | _, _, .cons h r => .cons (KN.kp p h) (KNs.kp p r)
end
mutual
theorem KN.rv : ∀ {k : NestedKey} {v : V}, KN K H k v → RV K ι H (kN k) v
  | _, _, .non => by rw [kN]; exact .non
  | _, _, .num i => by rw [kN]; exact .int i
  | _, _, .tup h r => by rw [kN]; exact .tup h (KNs.rv r)
theorem KNs.rv : ∀ {k : List NestedKey} {v : List V}, KNs K H k v → RVs K ι H (kNs k) v
  | _, _, .nil => by rw [kNs]; exact .nil
  | _, _, .cons h r => by rw [kNs]; exact .cons (KN.rv h) (KNs.rv r)
end
end
def EntV (K : PySem.W.Frag) (H : Hp) (x : NestedKey × V) (e : DictEntry) : Prop := (∃ kv, KN K H x.1 kv ∧ RelV kv e.key) ∧ (∀ w, e.hash = x.1.hash w) ∧ RelV x.2 e.val ∧ x.1.depth ≤ 8
def RawD (K : PySem.W.Frag) (H : Hp) (a : Addr) (ks : List (NestedKey × V)) : Prop := ∃ es, H a = some (RawO a es) ∧ Paired (EntV K H) ks es.toList ∧ (ks.map (·.1)).Nodup ∧ ks.length ≤ sizeLine ∧ (a == sysModules) = false
theorem RawD.kp {K : PySem.W.Frag} {ι ι' : List Addr} {H H' : Hp} {a : Addr} {ks : List (NestedKey × V)} (p : Kp ι H ι' H') (e : H' a = H a) (h : RawD K H a ks) : RawD K H' a ks := by
  obtain ⟨es, h1, h2, h3⟩ := h
  exact ⟨es, by rw [e]; exact h1, Paired.mapP h2 fun x e ⟨⟨kv, z1, z2⟩, z3⟩ => ⟨⟨kv, z1.kp p, z2⟩, z3⟩, h3⟩
/-- the table of the code objects of a def's lambdas -/
def TabF (K : PySem.W.Frag) (H : Hp) (P : Addr) (x : Str) : Prop := (∃ c, PySem.W.tabIn K x = some (c, P)) ∧ ∃ ps : Array Value, H P = some (.tbl ps) ∧ TriplesOk ps.toList ∧
  ∀ (pos : Pos) (cv : Value), codeAmong pos ps.toList = some cv → ∃ c o, cv = .ref c ∧ H c = some (FzO c o) ∧ CodeNm o (x ++ ".<locals>." ++ "<lambda>")
theorem TabF.kp {K : PySem.W.Frag} {ι ι' : List Addr} {H H' : Hp} {a : Addr} {x : Str} (p : Kp ι H ι' H') (e : H' a = H a) (h : TabF K H a x) : TabF K H' a x := by
  obtain ⟨h0, ps, h1, h2, h3⟩ := h
  exact ⟨h0, ps, by rw [e]; exact h1, h2, fun pos cv hc => let ⟨c, o, e1, e2, e3⟩ := h3 pos cv hc; ⟨c, o, e1, p.kp _ _ e2 trivial, e3⟩⟩
/-- what lies at a place -/
def RB (K : PySem.W.Frag) (ι : List Addr) (H : Hp) : Ob → Addr → Prop
  | .lst xs, a => ∃ vs, H a = some (.lst vs) ∧ RVs K ι H xs vs
  | .dct kvs, a => ∃ ks : List (Key × V), H a = some (.dK ks) ∧ Paired (fun (p : D × D) (q : Key × V) => p.1 = kD q.1 ∧ RV K ι H p.2 q.2) kvs ks
  | .dcr kvs, a => ∃ ks : List (NestedKey × V), RawD K H a ks ∧ Paired (fun (p : D × D) (q : NestedKey × V) => p.1 = kN q.1 ∧ RV K ι H p.2 q.2) kvs ks
  | .tab q, a => TabF K H a q
theorem RB.isat {K : PySem.W.Frag} {ι : List Addr} {H : Hp} {b : Ob} {a : Addr} (h : RB K ι H b a) : H a ≠ none := by
  intro z
  cases b with
  | lst xs => obtain ⟨vs, e, _⟩ := h; rw [z] at e; cases e
  | dct kvs => obtain ⟨vs, e, _⟩ := h; rw [z] at e; cases e
  | dcr kvs => obtain ⟨vs, ⟨es, e, _⟩, _⟩ := h; rw [z] at e; cases e
  | tab q => obtain ⟨_, ps, e, _⟩ := h; rw [z] at e; cases e
theorem RB.kp {K : PySem.W.Frag} {ι ι' : List Addr} {H H' : Hp} {b : Ob} {a : Addr} (p : Kp ι H ι' H') (e : H' a = H a) (h : RB K ι H b a) : RB K ι' H' b a := by
  cases b with
  | lst xs => obtain ⟨vs, e1, r⟩ := h; exact ⟨vs, by rw [e]; exact e1, r.kp p⟩
  | dct kvs => obtain ⟨vs, e1, r⟩ := h; exact ⟨vs, by rw [e]; exact e1, Paired.mapP r fun _ _ z => ⟨z.1, z.2.kp p⟩⟩
  | dcr kvs => obtain ⟨vs, e1, r⟩ := h; exact ⟨vs, e1.kp p e, Paired.mapP r fun _ _ z => ⟨z.1, z.2.kp p⟩⟩
  | tab q => exact TabF.kp p e h
theorem RB.mono {K : PySem.W.Frag} {ι ι' : List Addr} {H H' : Hp} {b : Ob} {a : Addr} (p : Le ι H ι' H') (e : H' a = H a) (h : RB K ι H b a) : RB K ι' H' b a := h.kp p.k e

structure RM (K : PySem.W.Frag) (ι : List Addr) (H : Hp) (m : Mem) : Prop where
  nd : ι.Nodup
  len : ι.length = m.length
  ob : ∀ (n : Nat) (b : Ob), m[n]? = some b → ∃ a, ι[n]? = some a ∧ RB K ι H b a
/-- all sizes are within the line -/
def Bnd (K : PySem.W.Frag) (H : Hp) : Prop := ∀ a vs, SqL K H a vs ∨ SqT K H a vs → vs.length ≤ sizeLine
/-- an outcome, seen from the heap H0 ahead of it -/
def RO (K : PySem.W.Frag) (H0 : Hp) (ι : List Addr) (H : Hp) : Out → V → Prop
  | .v d, v => RV K ι H d v
  | .o b, v => ∃ p, v = .ref p ∧ H0 p = none ∧ p ∉ ι ∧ RB K ι H b p
def RS (K : PySem.W.Frag) (ι : List Addr) (H : Hp) (σ : St) (ρ : Env) : Prop := σ.length = ρ.length ∧ ∀ (i : Nat) (d : D), ρ[i]? = some (some d) → ∃ v, σ[i]? = some (some v) ∧ RV K ι H d v
section
variable {K : PySem.W.Frag} {ι ι' ι2 : List Addr} {H H0 H' H2 : Hp} {m m' : Mem} {σ : St} {ρ : Env}
theorem RS.kp (p : Kp ι H ι' H') (h : RS K ι H σ ρ) : RS K ι' H' σ ρ := ⟨h.1, fun i d e => let ⟨v, a, b⟩ := h.2 i d e; ⟨v, a, b.kp p⟩⟩
theorem nofz {o : HO} (mu : Mut (some o)) (f : Fz o) : False := by cases o <;> first | exact mu | exact f
/-- an object is written anew -/
theorem Kp.upd {a : Addr} {o : HO} (mu : Mut (H a)) : Kp ι H ι (L2.upd H a o) := ⟨fun _ _ h => h, fun b u h c => by
  by_cases z : b = a
  · subst z; rw [h] at mu; exact (nofz mu c).elim
  · rw [upd_ne z]; exact h⟩
theorem Kp.newAt {a : Addr} {o : HO} (mu : H a = none) : Kp ι H ι (L2.upd H a o) := ⟨fun _ _ h => h, fun b u h c => by rw [upd_ne (ne_of_none h mu)]; exact h⟩
theorem RS.mono (p : Le ι H ι' H') (h : RS K ι H σ ρ) : RS K ι' H' σ ρ := ⟨h.1, fun i d e => let ⟨v, a, b⟩ := h.2 i d e; ⟨v, a, b.mono p⟩⟩
theorem RM.there (h : RM K ι H m) : ∀ a ∈ ι, H a ≠ none := fun a ha => by
  obtain ⟨n, hn, e⟩ := List.getElem_of_mem ha
  have hm : n < m.length := by rw [← h.len]; exact hn
  obtain ⟨a', e1, rb⟩ := h.ob n m[n] (List.getElem?_eq_getElem hm)
  rw [List.getElem?_eq_getElem hn, e] at e1
  cases e1
  exact rb.isat
theorem Le.subset (p : Le ι H ι' H') : ∀ a ∈ ι, a ∈ ι' := fun a ha => by
  obtain ⟨nw, e, _⟩ := p.pre; rw [e]; exact List.mem_append_left _ ha
theorem Le.thereB (p : Le ι H ι' H') (h : RM K ι' H' m) : ∀ a ∈ ι, H' a ≠ none := fun a ha => h.there a (p.subset a ha)
theorem Le.tr (p : Le ι H ι' H') (h : RM K ι' H' m) (q : Le ι' H' ι2 H2) : Le ι H ι2 H2 := p.trans q (p.thereB h)
theorem Le.back (p : Le ι H ι' H') (h : RM K ι' H' m) {a : Addr} (e : H' a = none) : H a = none := by
  cases q : H a with
  | none => rfl
  | some o =>
    by_cases hi : a ∈ ι
    · exact absurd e (p.thereB h a hi)
    · rw [p.keep a o q (.inr hi)] at e; cases e
/-- an outcome that was there stays -/
theorem RO.mono {r : Out} {v : V} (h : RO K H0 ι H r v) (p : Le ι H ι' H') : RO K H0 ι' H' r v := by
  cases r with
  | v d => exact RV.mono p h
  | o b =>
    obtain ⟨q, e, e0, hi, rb⟩ := h
    have hs := rb.isat
    refine ⟨q, e, e0, fun hm => ?_, ?_⟩
    · obtain ⟨nw, e2, f⟩ := p.pre
      rw [e2] at hm
      rcases List.mem_append.mp hm with z | z
      · exact hi z
      · exact hs (f q z)
    · refine rb.mono p ?_
      cases q1 : H q with
      | none => exact absurd q1 hs
      | some o => exact p.keep q o q1 (.inr hi)
/-- seen from further back -/
theorem RO.from {H1 : Hp} {ι0 : List Addr} {r : Out} {v : V} (h : RO K H1 ι' H' r v) (p : Le ι0 H0 ι H1) (rm : RM K ι H1 m) : RO K H0 ι' H' r v := by
  cases r with
  | v d => exact h
  | o b =>
    obtain ⟨q, e, e0, hi, rb⟩ := h
    exact ⟨q, e, p.back rm e0, hi, rb⟩
def val : Out → Mem → D × Mem
  | .v d, m => (d, m)
  | .o b, m => (.ref m.length, m ++ [b])
@[simp] theorem val_v (d : D) (m : Mem) : val (.v d) m = (d, m) := rfl
@[simp] theorem val_o (b : Ob) (m : Mem) : val (.o b) m = (.ref m.length, m ++ [b]) := rfl
/-- a new object is given a place -/
theorem RO.val {ι0 : List Addr} {r : Out} {v : V} (h : RO K H0 ι H r v) (p : Le ι0 H0 ι H) (rm : RM K ι H m) (rs : RS K ι H σ ρ) :
    ∃ ι', Le ι0 H0 ι' H ∧ RM K ι' H (val r m).2 ∧ RV K ι' H (val r m).1 v ∧ RS K ι' H σ ρ ∧ (∀ d u, RV K ι H d u → RV K ι' H d u) ∧ (∀ ds us, RVs K ι H ds us → RVs K ι' H ds us) := by
  cases r with
  | v d => exact ⟨ι, p, rm, h, rs, fun _ _ z => z, fun _ _ z => z⟩
  | o b =>
    obtain ⟨q, e, e0, hi, rb⟩ := h
    have up : ∀ d u, RV K ι H d u → RV K (ι ++ [q]) H d u := by
      have L : Le ι (fun a => if a = q then none else H a) (ι ++ [q]) H := ⟨⟨[q], rfl, fun a ha => by simp at ha; simp [ha]⟩, fun a o h _ => by
        by_cases z : a = q
        · simp [z] at h
        · simpa [z] using h⟩
      intro d u r
      refine RV.rec (motive_1 := fun d u _ => RV K (ι ++ [q]) H d u) (motive_2 := fun ds us _ => RVs K (ι ++ [q]) H ds us) .non .bl .int .str (fun h _ r => .tup h r) (fun h _ r => .fl h r) (fun h _ r => .par h r) (fun h => .ref (L.ix h)) (fun h _ r => .lam h r) .nil (fun _ _ a b => .cons a b) r
    have ups : ∀ ds us, RVs K ι H ds us → RVs K (ι ++ [q]) H ds us := by
      intro ds us r
      induction r using RVs.rec (motive_1 := fun _ _ _ => True) with
      | nil => exact .nil
      | cons h _ _ ih => exact .cons (up _ _ h) ih
      | _ => trivial
    have upb : ∀ b a, RB K ι H b a → RB K (ι ++ [q]) H b a := fun b a h => by
      cases b with
      | lst xs => obtain ⟨vs, e1, r⟩ := h; exact ⟨vs, e1, ups _ _ r⟩
      | dct kvs => obtain ⟨vs, e1, r⟩ := h; exact ⟨vs, e1, Paired.mapP r fun _ _ z => ⟨z.1, up _ _ z.2⟩⟩
      | dcr kvs => obtain ⟨vs, e1, r⟩ := h; exact ⟨vs, e1, Paired.mapP r fun _ _ z => ⟨z.1, up _ _ z.2⟩⟩
      | tab q => exact h
    obtain ⟨nw, e1, f1⟩ := p.pre
    refine ⟨ι ++ [q], ⟨⟨nw ++ [q], by rw [e1, List.append_assoc], fun a ha => ?_⟩, fun a o h c => p.keep a o h c⟩, ⟨?_, ?_, fun n b' hb => ?_⟩, ?_, ⟨rs.1, fun i d e => let ⟨v, a, b⟩ := rs.2 i d e; ⟨v, a, up _ _ b⟩⟩, up, ups⟩
    · rcases List.mem_append.mp ha with z | z
      · exact f1 a z
      · simp at z; rw [z]; exact e0
    · rw [List.nodup_append]
      exact ⟨rm.nd, by simp, fun a ha b hb => by simp at hb; subst hb; intro z; subst z; exact hi ha⟩
    · show (ι ++ [q]).length = (m ++ [b]).length
      simp [rm.len]
    · have hb' : (m ++ [b])[n]? = some b' := hb
      by_cases hn : n < m.length
      · rw [List.getElem?_append_left hn] at hb'
        obtain ⟨a, e2, rb2⟩ := rm.ob n b' hb'
        exact ⟨a, by rw [List.getElem?_append_left (by rw [rm.len]; exact hn)]; exact e2, upb _ _ rb2⟩
      · rw [List.getElem?_append_right (by omega)] at hb'
        have : n = m.length := by
          by_cases z : n - m.length = 0
          · omega
          · rw [List.getElem?_eq_none (by simp; omega)] at hb'; cases hb'
        subst this
        simp at hb'
        subst hb'
        refine ⟨q, ?_, upb _ _ rb⟩
        rw [← rm.len]; simp
    · subst e
      refine .ref ?_
      rw [← rm.len]; simp
end
end Q
/-! new tuples are plain: the layer's rules, telling so -/
namespace Q
open PySem L2
open PyProof.Rows (IsTup)
abbrev TpN (H : Hp) (xs : List V) (Q : VK) : Prop := ∀ p o, H p = none → o.dict = none → Q (.ref p) (upd H p (.frz o (.tup xs)))
theorem tup_ok {P : Program} {w : World} {H : Hp} {h : Heap} {a : Addr} {xs : List V} {us : List Value} {ar : Array Value} {n : Nat} (z : xs.length ≤ sizeLine) (r : Vals xs us) (e : ar = us.toArray) (g : h.get? a = some { cls := .type "tuple", data := .seq ar n }) : ObjOk P w H h a (.frz { cls := .type "tuple", data := .seq ar n } (.tup xs)) := by
  subst e
  exact ⟨g, z, us, r, _, g, rfl, n, rfl⟩
section
variable {X : Cx}
def tTupN (t : TA) : TE := fun σ H Q => t σ H fun xs H1 => xs.length ≤ sizeLine ∧ TpN H1 xs Q
theorem pe_tupN {es : List Expr} {t : TA} {x1 : Nat} {pos : Pos} (h : PA X es t) : PE X (.Tuple es x1 pos) (tTupN t) := by
  refine ⟨fun pins s σ H Q I hq => ?_⟩
  refine PySem.wpAny_Tuple_spliced (thn (h.run pos pins s σ H _ I hq) fun us s1 ⟨xs, H1, I1, r, z, q⟩ => ⟨by rw [← r.length]; exact z, ?_⟩)
  have hf : H1 s1.heap.objs.size = none := I1.hok.fresh (Nat.le_refl _)
  exact ⟨.ref s1.heap.objs.size, upd H1 s1.heap.objs.size (.frz _ (.tup xs)), I1.laid (t' := s1.toks) (fun b u e => Heap.get?_push_of_some _ e) (Nat.le_refl _) (tup_ok z r rfl (Heap.get?_push_size _ rfl)), rfl, q _ _ hf rfl⟩
theorem call_tuple_ofN : CallR X (.type "tuple") (fun xs H Q => ∃ p ys, xs = [.ref p] ∧ ((SqL X.K H p ys ∧ TpN H ys Q) ∨ (SqT X.K H p ys ∧ Q (.ref p) H))) := by
  intro pins s σ H xs us Q I r h
  obtain ⟨p, ys, rfl, h⟩ := h
  obtain ⟨u, rfl, rx⟩ := vals1 r
  cases rx
  rcases h with ⟨hq, q⟩ | ⟨hq, q⟩
  · obtain ⟨its, r', pl, hz⟩ := I.list hq
    have hlen := r'.length
    refine PySem.call_tuple_list pl.isList (fun h' kp => ?_) (by simp only [List.size_toArray] <;> omega)
    have I1 : Inv X pins σ H { s with heap := h' } := I.kept (t' := s.toks) kp
    have I2 : Inv X pins σ (upd H h'.objs.size (.frz { cls := .type "tuple", data := .seq its.toArray } (.tup ys))) { s with heap := h'.push { cls := .type "tuple", data := .seq its.toArray } } :=
      I1.laid (t' := s.toks) (fun b o e => Heap.get?_push_of_some _ e) (Nat.le_refl _) (tup_ok hz r' rfl (Heap.get?_push_size _ rfl))
    exact ⟨.ref h'.objs.size, _, I2, rfl, q _ _ (I1.hok.fresh (Nat.le_refl _)) rfl⟩
  · obtain ⟨its, r', pl, hz⟩ := I.tuple hq
    exact PySem.call_tuple_same pl ⟨.ref p, H, I, rfl, q⟩
def rSlN (K : PySem.W.Frag) : V → Option Int → Option Int → Hp → VK → Prop := fun x lo hi H Q => ∃ a xs, x = .ref a ∧ SqT K H a xs ∧
  (HT.sIx xs.length 0 lo = 0 ∧ HT.sIx xs.length xs.length hi = xs.length → Q (.ref a) H) ∧ (¬ (HT.sIx xs.length 0 lo = 0 ∧ HT.sIx xs.length xs.length hi = xs.length) → TpN H (cutV xs lo hi) Q)
theorem sl_tupN : SlR X (rSlN X.K) := by
  intro pins s σ H x v vl vu lo hi sl Q I rx hs pl pu h
  obtain ⟨a, xs, rfl, hx, q1, q2⟩ := h
  cases rx
  obtain ⟨its, r, ht, hz⟩ := I.tuple hx
  have hlen : its.toArray.size = xs.length := by rw [List.size_toArray]; exact r.length.symm
  by_cases hw : HT.sIx xs.length 0 lo = 0 ∧ HT.sIx xs.length xs.length hi = xs.length
  · refine ⟨"tuple", _, PyProof.Rows.slot_tuple_getitem.lookup, ht.typeIs, ?_⟩
    exact getItem_tuple_whole ht hs pl pu (by rw [hlen]; exact hw) ⟨.ref a, H, I, rfl, q1 hw⟩
  · refine ⟨"tuple", _, PyProof.Rows.slot_tuple_getitem.lookup, ht.typeIs, ?_⟩
    refine HT.getItem_tuple_cut ht hs pl pu (by rw [hlen]; exact hw) ?_ (by rw [hlen]; exact hz)
    rw [hlen]
    exact ⟨.ref s.heap.objs.size, _, I.laid (t' := s.toks) (o := .frz _ (.tup (cutV xs lo hi))) (fun b ob q => Heap.get?_push_of_some _ q) (Nat.le_refl _) (tup_ok (Nat.le_trans (cutV_length xs lo hi) hz) ((r.drop (HT.sIx xs.length 0 lo)).take (HT.sIx xs.length xs.length hi - HT.sIx xs.length 0 lo)) rfl (Heap.get?_push_size _ rfl)), rfl, q2 hw _ _ (I.hok.fresh (Nat.le_refl _)) rfl⟩
def rCatN (K : PySem.W.Frag) : R2 := fun x y H Q => ∃ a b xs ys, x = .ref a ∧ y = .ref b ∧ SqT K H a xs ∧ SqT K H b ys ∧ xs.length + ys.length ≤ sizeLine ∧
  (xs = [] → Q (.ref b) H) ∧ (xs ≠ [] → ys = [] → Q (.ref a) H) ∧ (xs ≠ [] → ys ≠ [] → TpN H (xs ++ ys) Q)
theorem nil_iffV {xs : List V} {us : List Value} (r : Vals xs us) : us = [] ↔ xs = [] := by
  cases r with
  | nil => simp
  | cons _ _ => simp
theorem op_catN : OpR X (binaryOp .Add) (rCatN X.K) := by
  intro pins s σ H x y v u Q I rx ry h
  obtain ⟨a, b, xs, ys, rfl, rfl, ha, hb, hz, q0, q1, q2⟩ := h
  cases rx
  cases ry
  obtain ⟨its, r1, p1, _⟩ := I.tuple ha
  obtain ⟨its2, r2, p2, _⟩ := I.tuple hb
  by_cases hx : xs = []
  · subst hx
    cases r1
    exact cat_tup0 p1 p2 ⟨.ref b, H, I, rfl, q0 rfl⟩
  · refine HT.cat_tup p1 p2 (fun z => hx ((nil_iffV r1).mp z)) (fun z => ⟨.ref a, H, I, rfl, q1 hx ((nil_iffV r2).mp z)⟩) (fun z => ?_) (by rw [← r1.length, ← r2.length]; exact hz)
    exact ⟨.ref s.heap.objs.size, _, I.laid (t' := s.toks) (o := .frz _ (.tup (xs ++ ys))) (fun b ob q => Heap.get?_push_of_some _ q) (Nat.le_refl _) (tup_ok (by rw [List.length_append]; exact hz) (r1.append r2) rfl (Heap.get?_push_size _ rfl)), rfl, q2 hx (fun w => z ((nil_iffV r2).mpr w)) _ _ (I.hok.fresh (Nat.le_refl _)) rfl⟩
variable {e : Expr} {te : St → Hp → (Int → Int → Hp → Prop) → Prop}
def tTupRgN (te : St → Hp → (Int → Int → Hp → Prop) → Prop) : TE := fun σ H Q => te σ H fun a b H1 => RgOk a b ∧ TpN H1 (rgV a b) Q
theorem pe_tupRgN {p pos : Pos} (hc : X.calm = true) (hg : Gl X "tuple") (hm : X.mg "tuple" = none) (he : PRg X e te) (na : starEach [e] X.env = (false, eval e X.env) :: starEach [] X.env := by rfl) : PE X (.Call (.Name "tuple" p) [e] [] pos) (tTupRgN te) := by
  refine ⟨fun pins s σ H Q I h => ?_⟩
  refine PyProof.Rows.Call_ (ld_blt I hg hm PyProof.Rows.boot_tuple (PyProof.Rows.callWith_type1 (PyProof.Rows.args_cons (thn (he pins s σ H _ I h) fun x s1 ⟨r, a, b, t, u, v, H1, ex, hr, I1, ok, q⟩ => PyProof.Rows.args_nil ?_) na) na))
  subst ex
  obtain ⟨b1, b2, b3, b4, b5⟩ := ok
  refine call_tuple_range (n := (b - a).toNat) (I1.ok.hd hc) hr (small_one b1 b2 b3 b4) (PyProof.Rows.rangeSize_nat a b) b5 fun h' tk acc hk hi => ?_
  have I2 : Inv X pins σ H1 { s1 with heap := h', toks := tk } := I1.kept hk
  refine ⟨.ref h'.objs.size, upd H1 h'.objs.size (.frz _ (.tup (rgV a b))), I2.laid (t' := tk) (fun c o e => Heap.get?_push_of_some _ e) (Nat.le_refl _) (tup_ok ?_ (vals_rg hi) (by simp) (Heap.get?_push_size _ rfl)), rfl, q _ _ (I2.hok.fresh (Nat.le_refl _)) rfl⟩
  rw [rgV_length, sizeLine_eq]; omega
end
end Q
namespace Q
open PySem L2

/-! ### readings -/
def tE (K : PySem.W.Frag) (f : E) : TE := fun σ H Q => ∃ ι ρ m r m', RS K ι H σ ρ ∧ RM K ι H m ∧ f ρ m = some (r, m') ∧
  ∀ v ι' H', Le ι H ι' H' → RM K ι' H' m' → RO K H ι' H' r v → Bnd K H' → Q v H'
def tT (K : PySem.W.Frag) (f : B) : TT := fun σ H Q => ∃ ι ρ m r m', RS K ι H σ ρ ∧ RM K ι H m ∧ f ρ m = some (r, m') ∧
  ∀ ι' H', Le ι H ι' H' → RM K ι' H' m' → Bnd K H' → Q r H'
def tA (K : PySem.W.Frag) (f : A) : TA := fun σ H Q => ∃ ι ρ m ds m', RS K ι H σ ρ ∧ RM K ι H m ∧ f ρ m = some (ds, m') ∧
  ∀ vs ι' H', Le ι H ι' H' → RM K ι' H' m' → RVs K ι' H' ds vs → Bnd K H' → Q vs H'
def PR (K : PySem.W.Frag) (ι : List Addr) (H : Hp) (D : Ends) : R → Prop
  | .nx ρ m => ∀ σ ι' H', Le ι H ι' H' → RS K ι' H' σ ρ → RM K ι' H' m → D.nx σ H'
  | .rt r m => ∀ v ι' H', Le ι H ι' H' → RM K ι' H' m → RO K H ι' H' r v → D.rt v H'
  | .bk ρ m => ∀ σ ι' H', Le ι H ι' H' → RS K ι' H' σ ρ → RM K ι' H' m → D.bk σ H'
  | .ct ρ m => ∀ σ ι' H', Le ι H ι' H' → RS K ι' H' σ ρ → RM K ι' H' m → D.ct σ H'
def tS (K : PySem.W.Frag) (f : S) : TS := fun D σ H => ∃ ι ρ m r, RS K ι H σ ρ ∧ RM K ι H m ∧ f ρ m = some r ∧ PR K ι H D r
abbrev SE (X : Cx) (e : Expr) (f : E) : Prop := PE X e (tE X.K f)
abbrev ST (X : Cx) (e : Expr) (f : B) : Prop := PT X e (tT X.K f)
abbrev SW (X : Cx) (e : Expr) (f : B) : Prop := PW X e (tT X.K f)
abbrev SA (X : Cx) (es : List Expr) (f : A) : Prop := PA X es (tA X.K f)
abbrev SS (X : Cx) (st : Stmt) (f : S) : Prop := PS X st (tS X.K f)
abbrev SSs (X : Cx) (st : List Stmt) (f : S) : Prop := PSs X st (tS X.K f)

theorem PR.from {K : PySem.W.Frag} {ι ι1 : List Addr} {H H1 : Hp} {m : Mem} {D : Ends} (p : Le ι H ι1 H1) (rm : RM K ι1 H1 m) {r : R} (h : PR K ι H D r) : PR K ι1 H1 D r := by
  cases r with
  | nx ρ m' => exact fun σ ι' H' q a b => h σ ι' H' (p.tr rm q) a b
  | bk ρ m' => exact fun σ ι' H' q a b => h σ ι' H' (p.tr rm q) a b
  | ct ρ m' => exact fun σ ι' H' q a b => h σ ι' H' (p.tr rm q) a b
  | rt r m' => exact fun v ι' H' q a b => h v ι' H' (p.tr rm q) a (b.from p rm)

section
variable {X : Cx}
theorem bnd_of {pins : List (Addr × Obj)} {σ : St} {H : Hp} {s : Shared} (I : Inv X pins σ H s) : Bnd X.K H := fun a vs h => by
  rcases h with h | h
  · obtain ⟨_, _, _, z⟩ := I.list h; exact z
  · obtain ⟨_, _, _, z⟩ := I.tuple h; exact z
theorem pe_imp {e : Expr} {t t' : TE} (h : PE X e t) (hh : ∀ σ H Q, t' σ H Q → t σ H fun v H' => Bnd X.K H' → Q v H') : PE X e t' :=
  ⟨fun pins s σ H Q I q => thn (h.run pins s σ H _ I (hh σ H Q q)) fun u s1 ⟨v, H1, I1, r1, q1⟩ => ⟨v, H1, I1, r1, q1 (bnd_of I1)⟩⟩
theorem pt_imp {e : Expr} {t t' : TT} (h : PT X e t) (hh : ∀ σ H Q, t' σ H Q → t σ H fun v H' => Bnd X.K H' → Q v H') : PT X e t' :=
  ⟨fun pins s σ H Q I q => thn (h.run pins s σ H _ I (hh σ H Q q)) fun u s1 ⟨H1, I1, q1⟩ => ⟨H1, I1, q1 (bnd_of I1)⟩⟩
theorem pw_imp {e : Expr} {t t' : TT} (h : PW X e t) (hh : ∀ σ H Q, t' σ H Q → t σ H fun v H' => Bnd X.K H' → Q v H') : PW X e t' :=
  ⟨fun wh pins s σ H Q I q => thn (h.run wh pins s σ H _ I (hh σ H Q q)) fun u s1 ⟨H1, I1, q1⟩ => ⟨H1, I1, q1 (bnd_of I1)⟩⟩
theorem pa_imp {es : List Expr} {t t' : TA} (h : PA X es t) (hh : ∀ σ H Q, t' σ H Q → t σ H fun v H' => Bnd X.K H' → Q v H') : PA X es t' :=
  ⟨fun pos pins s σ H Q I q => thn (h.run pos pins s σ H _ I (hh σ H Q q)) fun u s1 ⟨v, H1, I1, r1, q1⟩ => ⟨v, H1, I1, r1, q1 (bnd_of I1)⟩⟩
theorem ps_imp {st : Stmt} {t t' : TS} (h : PS X st t) (hh : ∀ D σ H, t' D σ H → t D σ H) : PS X st t' := ⟨fun pins s σ H D I q => h.run pins s σ H D I (hh D σ H q)⟩
theorem pss_imp {st : List Stmt} {t t' : TS} (h : PSs X st t) (hh : ∀ D σ H, t' D σ H → t D σ H) : PSs X st t' := ⟨fun pins s σ H D I q => h.run pins s σ H D I (hh D σ H q)⟩
theorem pi_imp {tg it : Expr} {t t' : TI} (h : PI X tg it t) (hh : ∀ σ H R, t' σ H R → t σ H fun J H' => Bnd X.K H' → R J H') : PI X tg it t' :=
  ⟨fun pins s σ H R I q => thn (h.run pins s σ H _ I (hh σ H R q)) fun u s1 h1 => thn h1 fun v s2 ⟨it, fp, tn, J, H', e, I', T, t0, f, r⟩ => ⟨it, fp, tn, J, H', e, I', T, t0, f, r (bnd_of I')⟩⟩
theorem pg_imp {tg : Expr} {t t' : TG} (h : PG X tg t) (hh : ∀ v σ H Q, t' v σ H Q → t v σ H Q) : PG X tg t' := ⟨fun pins s σ H v u Q I r q => h.run pins s σ H v u Q I r (hh v σ H Q q)⟩
end

/-! ### expressions -/
@[simp] def eVar (i : Nat) (ρ : Env) (m : Mem) : Option (Out × Mem) := match ρ[i]? with | some (some d) => some (.v d, m) | _ => none
@[simp] def eC (d : D) (_ : Env) (m : Mem) : Option (Out × Mem) := some (.v d, m)
abbrev F2 := Out → Out → Mem → Option (Out × Mem)
abbrev F1 := Out → Mem → Option (Out × Mem)
@[simp] def eBin (f : F2) (a b : E) (ρ : Env) (m : Mem) : Option (Out × Mem) := (a ρ m).bind fun x => (b ρ x.2).bind fun y => f x.1 y.1 y.2
@[simp] def eUn (f : F1) (a : E) (ρ : Env) (m : Mem) : Option (Out × Mem) := (a ρ m).bind fun x => f x.1 x.2
@[simp] def eAnd (a b : E) (ρ : Env) (m : Mem) : Option (Out × Mem) := (a ρ m).bind fun x => match x.1 with | .v (.bl true) => b ρ x.2 | .v (.bl false) => some (.v (.bl false), x.2) | _ => none
@[simp] def eOr (a b : E) (ρ : Env) (m : Mem) : Option (Out × Mem) := (a ρ m).bind fun x => match x.1 with | .v (.bl false) => b ρ x.2 | .v (.bl true) => some (.v (.bl true), x.2) | _ => none
@[simp] def eNot (a : E) (ρ : Env) (m : Mem) : Option (Out × Mem) := (a ρ m).bind fun x => match x.1 with | .v (.bl b) => some (.v (.bl (!b)), x.2) | _ => none
@[simp] def eIf (c : B) (a b : E) (ρ : Env) (m : Mem) : Option (Out × Mem) := (c ρ m).bind fun x => match x.1 with | true => a ρ x.2 | false => b ρ x.2
@[simp] def bOf (a : E) (ρ : Env) (m : Mem) : Option (Bool × Mem) := (a ρ m).bind fun x => match x.1 with | .v (.bl b) => some (b, x.2) | _ => none
@[simp] def bAnd (a b : B) (ρ : Env) (m : Mem) : Option (Bool × Mem) := (a ρ m).bind fun x => match x.1 with | true => b ρ x.2 | false => some (false, x.2)
@[simp] def bOr (a b : B) (ρ : Env) (m : Mem) : Option (Bool × Mem) := (a ρ m).bind fun x => match x.1 with | false => b ρ x.2 | true => some (true, x.2)
@[simp] def bNot (a : B) (ρ : Env) (m : Mem) : Option (Bool × Mem) := (a ρ m).bind fun x => some (!x.1, x.2)
@[simp] def bYes (_ : Env) (m : Mem) : Option (Bool × Mem) := some (true, m)
@[simp] def aNil (_ : Env) (m : Mem) : Option (List D × Mem) := some ([], m)
@[simp] def aCons (a : E) (r : A) (ρ : Env) (m : Mem) : Option (List D × Mem) := (a ρ m).bind fun x => (r ρ (val x.1 x.2).2).bind fun y => some ((val x.1 x.2).1 :: y.1, y.2)
@[simp] noncomputable def eTup (a : A) (ρ : Env) (m : Mem) : Option (Out × Mem) := (a ρ m).bind fun x => if fits x.1.length then some (.v (.tup x.1), x.2) else none
@[simp] noncomputable def eLst (a : A) (ρ : Env) (m : Mem) : Option (Out × Mem) := (a ρ m).bind fun x => if fits x.1.length then some (.o (.lst x.1), x.2) else none
@[simp] def eCall (F : Fn) (a : A) (ρ : Env) (m : Mem) : Option (Out × Mem) := (a ρ m).bind fun x => F x.1 x.2

/-- what a two-place rule of the layer is to give for a plain function -/
def R2S (K : PySem.W.Frag) (r : R2) (f : F2) : Prop := ∀ (ι : List Addr) (H H0 : Hp) (m : Mem) (x y z : Out) (vx vy : V) (m' : Mem) (Q : VK), RM K ι H m → Bnd K H → RO K H0 ι H x vx → RO K H0 ι H y vy → f x y m = some (z, m') →
  (∀ v ι' H', Le ι H ι' H' → RM K ι' H' m' → RO K H ι' H' z v → Q v H') → r vx vy H Q
def R1S (K : PySem.W.Frag) (r : V → Hp → VK → Prop) (f : F1) : Prop := ∀ (ι : List Addr) (H H0 : Hp) (m : Mem) (x z : Out) (vx : V) (m' : Mem) (Q : VK), RM K ι H m → Bnd K H → RO K H0 ι H x vx → f x m = some (z, m') →
  (∀ v ι' H', Le ι H ι' H' → RM K ι' H' m' → RO K H ι' H' z v → Q v H') → r vx H Q
theorem bind_some {α β : Type} {x : Option α} {f : α → Option β} {b : β} (h : x.bind f = some b) : ∃ a, x = some a ∧ f a = some b := by
  cases x with
  | none => cases h
  | some a => exact ⟨a, rfl, h⟩
section
variable {X : Cx} {e a b c : Expr} {pos : Pos} {fa fb : E} {ca cb : B}
theorem se_var {i : Nat} (h : PE X e (tVar i)) : SE X e (eVar i) := pe_imp h fun σ H Q ⟨ι, ρ, m, r, m', rs, rm, hf, k⟩ => by
  unfold eVar at hf
  split at hf
  · rename_i d hd
    cases hf
    obtain ⟨v, e1, e2⟩ := rs.2 i d hd
    exact ⟨v, e1, fun bd => k v ι H (Le.refl _ _) rm e2 bd⟩
  · cases hf
theorem se_c {v : V} {d : D} (h : PE X e (tC v)) (hr : ∀ K ι H, RV K ι H d v) : SE X e (eC d) := pe_imp h fun σ H Q ⟨ι, ρ, m, r, m', rs, rm, hf, k⟩ => by
  cases hf
  exact fun bd => k v ι H (Le.refl _ _) rm (hr _ _ _) bd
theorem tOp_of {K : PySem.W.Frag} {ι : List Addr} {ρ : Env} {σ : St} {H : Hp} {m m' : Mem} {z : Out} {Q : VK} {r : R2} {f : F2} (hr : R2S K r f) (rs : RS K ι H σ ρ) (rm : RM K ι H m) (hf : eBin f fa fb ρ m = some (z, m'))
    (k : ∀ v ι' H', Le ι H ι' H' → RM K ι' H' m' → RO K H ι' H' z v → Q v H') : tOp r (tE K fa) (tE K fb) σ H Q := by
  obtain ⟨x, h1, hf⟩ := bind_some hf
  obtain ⟨y, h2, hf⟩ := bind_some hf
  refine ⟨ι, ρ, m, x.1, x.2, rs, rm, h1, fun v ι1 H1 l1 rm1 ro1 bd1 => ?_⟩
  refine ⟨ι1, ρ, x.2, y.1, y.2, rs.mono l1, rm1, h2, fun u ι2 H2 l2 rm2 ro2 bd2 => ?_⟩
  exact hr ι2 H2 H y.2 x.1 y.1 z v u m' _ rm2 bd2 (ro1.mono l2) (ro2.from l1 rm1) hf fun w ι3 H3 l3 rm3 ro3 => k w ι3 H3 (l1.tr rm1 (l2.tr rm2 l3)) rm3 (ro3.from (l1.tr rm1 l2) rm2)
theorem se_op {op : Operator} {r : R2} {f : F2} (ho : OpR X (binaryOp op) r) (hr : R2S X.K r f) (ha : SE X a fa) (hb : SE X b fb) : SE X (.BinOp a op b pos) (eBin f fa fb) :=
  pe_imp (pe_op ho ha hb) fun σ H Q ⟨ι, ρ, m, z, m', rs, rm, hf, k⟩ => tOp_of hr rs rm hf k
theorem se_cmp {op : CmpOp} {r : R2} {f : F2} (ho : OpR X (compareOp op) r) (hr : R2S X.K r f) (ha : SE X a fa) (hb : SE X b fb) (hm : behindInMarks op b = false) : SE X (.Compare a [op] [b] pos) (eBin f fa fb) :=
  pe_imp (pe_cmpR ho ha hb hm) fun σ H Q ⟨ι, ρ, m, z, m', rs, rm, hf, k⟩ => tOp_of hr rs rm hf k
theorem se_ix {r : R2} {f : F2} (ho : IxR X r) (hr : R2S X.K r f) (ha : SE X a fa) (hb : SE X b fb) (hs : PlainIx b) : SE X (.Subscript a b pos) (eBin f fa fb) :=
  pe_imp (pe_ix ho ha hb hs) fun σ H Q ⟨ι, ρ, m, z, m', rs, rm, hf, k⟩ => tOp_of hr rs rm hf k
theorem st_cmp {op : CmpOp} {r : R2} {f : F2} (ho : OpR X (compareOp op) r) (hr : R2S X.K r f) (ha : SE X a fa) (hb : SE X b fb) (hm : behindInMarks op b = false) : ST X (.Compare a [op] [b] pos) (bOf (eBin f fa fb)) :=
  pt_imp (pt_cmpR ho ha hb hm) fun σ H Q ⟨ι, ρ, m, z, m', rs, rm, hf, k⟩ => by
    obtain ⟨x, h2, hf⟩ := bind_some hf
    refine tOp_of hr rs rm (z := x.1) (m' := x.2) h2 fun v ι1 H1 l1 rm1 ro1 => ?_
    split at hf
    · rename_i e1; rw [e1] at ro1; cases ro1; cases hf
      exact ⟨_, rfl, fun bd => k ι1 H1 l1 rm1 bd⟩
    · cases hf
theorem se_un {op : UnaryOp} {r : V → Hp → VK → Prop} {f : F1} (ho : UnR X (unaryOp op) r) (hr : R1S X.K r f) (ha : SE X a fa) (h0 : PE X (.UnaryOp op a pos) (tUn r (tE X.K fa))) : SE X (.UnaryOp op a pos) (eUn f fa) :=
  pe_imp h0 fun σ H Q ⟨ι, ρ, m, z, m', rs, rm, hf, k⟩ => by
    obtain ⟨x, h1, hf⟩ := bind_some hf
    refine ⟨ι, ρ, m, x.1, x.2, rs, rm, h1, fun v ι1 H1 l1 rm1 ro1 bd1 => ?_⟩
    exact hr ι1 H1 H x.2 x.1 z v m' _ rm1 bd1 ro1 hf fun w ι3 H3 l3 rm3 ro3 bd3 => k w ι3 H3 (l1.tr rm1 l3) rm3 (ro3.from l1 rm1) bd3
/-- a chain a op b op' c -/
@[simp] def eChain (f g : F2) (a b c : E) (ρ : Env) (m : Mem) : Option (Out × Mem) := (a ρ m).bind fun x => (b ρ x.2).bind fun y => (f x.1 y.1 y.2).bind fun z => match z.1 with
  | .v (.bl true) => (c ρ z.2).bind fun w => g y.1 w.1 w.2
  | .v (.bl false) => some (.v (.bl false), z.2)
  | _ => none
theorem tChain_of {K : PySem.W.Frag} {ι : List Addr} {ρ : Env} {σ : St} {H : Hp} {m m' : Mem} {z : Out} {Q : VK} {r r' : R2} {f g : F2} {fc : E} (hr : R2S K r f) (hr' : R2S K r' g) (rs : RS K ι H σ ρ) (rm : RM K ι H m) (hf : eChain f g fa fb fc ρ m = some (z, m'))
    (k : ∀ v ι' H', Le ι H ι' H' → RM K ι' H' m' → RO K H ι' H' z v → Q v H') : tChain r r' (tE K fa) (tE K fb) (tE K fc) σ H Q := by
  obtain ⟨x, h1, hf⟩ := bind_some hf
  obtain ⟨y, h2, hf⟩ := bind_some hf
  obtain ⟨t, h3, hf⟩ := bind_some hf
  obtain ⟨t1, t2⟩ := t
  refine ⟨ι, ρ, m, x.1, x.2, rs, rm, h1, fun v ι1 H1 l1 rm1 ro1 bd1 => ?_⟩
  refine ⟨ι1, ρ, x.2, y.1, y.2, rs.mono l1, rm1, h2, fun u ι2 H2 l2 rm2 ro2 bd2 => ?_⟩
  refine hr ι2 H2 H y.2 x.1 y.1 t1 v u t2 _ rm2 bd2 (ro1.mono l2) (ro2.from l1 rm1) h3 fun w ι3 H3 l3 rm3 ro3 => ?_
  split at hf
  · rename_i e1
    simp only at e1
    subst e1
    cases ro3
    obtain ⟨q, h4, hf⟩ := bind_some hf
    refine ⟨true, rfl, ?_⟩
    rw [if_pos rfl]
    refine ⟨ι3, ρ, t2, q.1, q.2, ((rs.mono l1).mono l2).mono l3, rm3, h4, fun w' ι4 H4 l4 rm4 ro4 bd4 => ?_⟩
    exact hr' ι4 H4 H q.2 y.1 q.1 z u w' m' _ rm4 bd4 (((ro2.mono l3).mono l4).from l1 rm1) (ro4.from (l1.tr rm1 (l2.tr rm2 l3)) rm3) hf fun w5 ι5 H5 l5 rm5 ro5 =>
      k w5 ι5 H5 (l1.tr rm1 (l2.tr rm2 (l3.tr rm3 (l4.tr rm4 l5)))) rm5 (ro5.from (l1.tr rm1 (l2.tr rm2 (l3.tr rm3 l4))) rm4)
  · rename_i e1
    simp only at e1
    subst e1
    cases ro3
    cases hf
    refine ⟨false, rfl, ?_⟩
    rw [if_neg Bool.false_ne_true]
    exact k _ ι3 H3 (l1.tr rm1 (l2.tr rm2 l3)) rm3 (RV.bl false)
  · cases hf
theorem se_chain {r r' : R2} {f g : F2} {fc : E} (h0 : PE X e (tChain r r' (tE X.K fa) (tE X.K fb) (tE X.K fc))) (hr : R2S X.K r f) (hr' : R2S X.K r' g) : SE X e (eChain f g fa fb fc) :=
  pe_imp h0 fun σ H Q ⟨ι, ρ, m, z, m', rs, rm, hf, k⟩ => tChain_of hr hr' rs rm hf k
theorem st_chain {r r' : R2} {f g : F2} {fc : E} (h0 : PT X e (tTest (tChain r r' (tE X.K fa) (tE X.K fb) (tE X.K fc)))) (hr : R2S X.K r f) (hr' : R2S X.K r' g) : ST X e (bOf (eChain f g fa fb fc)) :=
  pt_imp h0 fun σ H Q ⟨ι, ρ, m, z, m', rs, rm, hf, k⟩ => by
    obtain ⟨x, h2, hf⟩ := bind_some hf
    refine tChain_of hr hr' rs rm (z := x.1) (m' := x.2) h2 fun v ι1 H1 l1 rm1 ro1 => ?_
    split at hf
    · rename_i e1; rw [e1] at ro1; cases ro1; cases hf
      exact ⟨_, rfl, fun bd => k ι1 H1 l1 rm1 bd⟩
    · cases hf
theorem se_and {rest : List Expr} (ha : SE X a fa) (hb : SE X (.BoolOp .And (b :: rest) pos) fb) (h0 : PE X (.BoolOp .And (a :: b :: rest) pos) (tAndV (tE X.K fa) (tE X.K fb))) : SE X (.BoolOp .And (a :: b :: rest) pos) (eAnd fa fb) :=
  pe_imp h0 fun σ H Q ⟨ι, ρ, m, z, m', rs, rm, hf, k⟩ => by
    obtain ⟨x, h1, hf⟩ := bind_some hf
    refine ⟨ι, ρ, m, x.1, x.2, rs, rm, h1, fun v ι1 H1 l1 rm1 ro1 bd1 => ?_⟩
    split at hf
    · rename_i e1; rw [e1] at ro1; cases ro1
      refine ⟨true, rfl, ?_⟩
      rw [if_pos rfl]
      exact ⟨ι1, ρ, x.2, z, m', rs.mono l1, rm1, hf, fun w ι3 H3 l3 rm3 ro3 bd3 _ => k w ι3 H3 (l1.tr rm1 l3) rm3 (ro3.from l1 rm1) bd3⟩
    · rename_i e1; rw [e1] at ro1; cases ro1; cases hf
      refine ⟨false, rfl, ?_⟩
      rw [if_neg Bool.false_ne_true]
      exact fun bd => k _ ι1 H1 l1 rm1 (RV.bl false) bd
    · cases hf
theorem se_or {rest : List Expr} (ha : SE X a fa) (hb : SE X (.BoolOp .Or (b :: rest) pos) fb) (h0 : PE X (.BoolOp .Or (a :: b :: rest) pos) (tOrV (tE X.K fa) (tE X.K fb))) : SE X (.BoolOp .Or (a :: b :: rest) pos) (eOr fa fb) :=
  pe_imp h0 fun σ H Q ⟨ι, ρ, m, z, m', rs, rm, hf, k⟩ => by
    obtain ⟨x, h1, hf⟩ := bind_some hf
    refine ⟨ι, ρ, m, x.1, x.2, rs, rm, h1, fun v ι1 H1 l1 rm1 ro1 bd1 => ?_⟩
    split at hf
    · rename_i e1; rw [e1] at ro1; cases ro1
      refine ⟨false, rfl, ?_⟩
      rw [if_neg Bool.false_ne_true]
      exact ⟨ι1, ρ, x.2, z, m', rs.mono l1, rm1, hf, fun w ι3 H3 l3 rm3 ro3 bd3 _ => k w ι3 H3 (l1.tr rm1 l3) rm3 (ro3.from l1 rm1) bd3⟩
    · rename_i e1; rw [e1] at ro1; cases ro1; cases hf
      refine ⟨true, rfl, ?_⟩
      rw [if_pos rfl]
      exact fun bd => k _ ι1 H1 l1 rm1 (RV.bl true) bd
    · cases hf
theorem se_not (h0 : PE X (.UnaryOp .Not a pos) (tNotV (tE X.K fa))) : SE X (.UnaryOp .Not a pos) (eNot fa) :=
  pe_imp h0 fun σ H Q ⟨ι, ρ, m, z, m', rs, rm, hf, k⟩ => by
    obtain ⟨x, h1, hf⟩ := bind_some hf
    refine ⟨ι, ρ, m, x.1, x.2, rs, rm, h1, fun v ι1 H1 l1 rm1 ro1 bd1 => ?_⟩
    split at hf
    · rename_i e1; rw [e1] at ro1; cases ro1; cases hf
      exact ⟨_, rfl, fun bd => k _ ι1 H1 l1 rm1 (RV.bl _) bd⟩
    · cases hf
theorem se_if (h0 : PE X (.IfExp c a b pos) (tIf (tT X.K ca) (tE X.K fa) (tE X.K fb))) : SE X (.IfExp c a b pos) (eIf ca fa fb) :=
  pe_imp h0 fun σ H Q ⟨ι, ρ, m, z, m', rs, rm, hf, k⟩ => by
    obtain ⟨x, h1, hf⟩ := bind_some hf
    refine ⟨ι, ρ, m, x.1, x.2, rs, rm, h1, fun ι1 H1 l1 rm1 bd1 => ?_⟩
    split at hf
    · rename_i e1; rw [e1, if_pos rfl]
      exact ⟨ι1, ρ, x.2, z, m', rs.mono l1, rm1, hf, fun w ι3 H3 l3 rm3 ro3 bd3 _ => k w ι3 H3 (l1.tr rm1 l3) rm3 (ro3.from l1 rm1) bd3⟩
    · rename_i e1; rw [e1, if_neg Bool.false_ne_true]
      exact ⟨ι1, ρ, x.2, z, m', rs.mono l1, rm1, hf, fun w ι3 H3 l3 rm3 ro3 bd3 _ => k w ι3 H3 (l1.tr rm1 l3) rm3 (ro3.from l1 rm1) bd3⟩
/-! tests -/
theorem st_of (h0 : PT X e (tB (tE X.K fa))) : ST X e (bOf fa) := pt_imp h0 fun σ H Q ⟨ι, ρ, m, z, m', rs, rm, hf, k⟩ => by
  obtain ⟨x, h1, hf⟩ := bind_some hf
  refine ⟨ι, ρ, m, x.1, x.2, rs, rm, h1, fun v ι1 H1 l1 rm1 ro1 bd1 => ?_⟩
  split at hf
  · rename_i e1; rw [e1] at ro1; cases ro1; cases hf
    exact ⟨_, rfl, fun bd => k ι1 H1 l1 rm1 bd⟩
  · cases hf
theorem sw_and {rest : List Expr} (h0 : PW X (.BoolOp .And (a :: b :: rest) pos) (tAnd (tT X.K ca) (tT X.K cb))) : SW X (.BoolOp .And (a :: b :: rest) pos) (bAnd ca cb) := pw_imp h0 fun σ H Q ⟨ι, ρ, m, z, m', rs, rm, hf, k⟩ => by
  obtain ⟨x, h1, hf⟩ := bind_some hf
  refine ⟨ι, ρ, m, x.1, x.2, rs, rm, h1, fun ι1 H1 l1 rm1 bd1 => ?_⟩
  split at hf
  · rename_i e1; rw [e1, if_pos rfl]
    exact ⟨ι1, ρ, x.2, z, m', rs.mono l1, rm1, hf, fun ι3 H3 l3 rm3 bd3 _ => k ι3 H3 (l1.tr rm1 l3) rm3 bd3⟩
  · rename_i e1; cases hf; rw [e1, if_neg Bool.false_ne_true]
    exact fun bd => k ι1 H1 l1 rm1 bd
theorem sw_or {rest : List Expr} (h0 : PW X (.BoolOp .Or (a :: b :: rest) pos) (tOr (tT X.K ca) (tT X.K cb))) : SW X (.BoolOp .Or (a :: b :: rest) pos) (bOr ca cb) := pw_imp h0 fun σ H Q ⟨ι, ρ, m, z, m', rs, rm, hf, k⟩ => by
  obtain ⟨x, h1, hf⟩ := bind_some hf
  refine ⟨ι, ρ, m, x.1, x.2, rs, rm, h1, fun ι1 H1 l1 rm1 bd1 => ?_⟩
  split at hf
  · rename_i e1; rw [e1, if_neg Bool.false_ne_true]
    exact ⟨ι1, ρ, x.2, z, m', rs.mono l1, rm1, hf, fun ι3 H3 l3 rm3 bd3 _ => k ι3 H3 (l1.tr rm1 l3) rm3 bd3⟩
  · rename_i e1; cases hf; rw [e1, if_pos rfl]
    exact fun bd => k ι1 H1 l1 rm1 bd
theorem st_not (h0 : PT X e (tNot (tT X.K ca))) : ST X e (bNot ca) := pt_imp h0 fun σ H Q ⟨ι, ρ, m, z, m', rs, rm, hf, k⟩ => by
  obtain ⟨x, h1, hf⟩ := bind_some hf
  cases hf
  exact ⟨ι, ρ, m, x.1, x.2, rs, rm, h1, fun ι1 H1 l1 rm1 bd1 bd => k ι1 H1 l1 rm1 bd⟩
theorem sts_nil : PTs X [] (tT X.K bYes) := ⟨fun pins s σ H Q I h => by
  obtain ⟨ι, ρ, m, z, m', rs, rm, hf, k⟩ := h
  cases hf
  exact pts_nil.run pins s σ H Q I (k ι H (Le.refl _ _) rm (bnd_of I))⟩
theorem sts_one (h : ST X e ca) : PTs X [e] (tT X.K ca) := pts_one h
/-! arguments, displays, calls -/
theorem sa_nil : SA X [] aNil := pa_imp pa_nil fun σ H Q ⟨ι, ρ, m, z, m', rs, rm, hf, k⟩ => by
  cases hf
  exact fun bd => k [] ι H (Le.refl _ _) rm .nil bd
theorem sa_cons {es : List Expr} {fr : A} (h0 : PA X (e :: es) (tCons (tE X.K fa) (tA X.K fr))) : SA X (e :: es) (aCons fa fr) := pa_imp h0 fun σ H Q ⟨ι, ρ, m, z, m', rs, rm, hf, k⟩ => by
  obtain ⟨x, h1, hf⟩ := bind_some hf
  obtain ⟨y, h2, hf⟩ := bind_some hf
  cases hf
  refine ⟨ι, ρ, m, x.1, x.2, rs, rm, h1, fun v ι1 H1 l1 rm1 ro1 bd1 => ?_⟩
  obtain ⟨ι1', l1', rm1', rv1, rs1, _, _⟩ := ro1.val l1 rm1 (rs.mono l1)
  refine ⟨ι1', ρ, _, y.1, y.2, rs1, rm1', h2, fun vs ι2 H2 l2 rm2 rvs bd2 bd => ?_⟩
  exact k (v :: vs) ι2 H2 (l1'.tr rm1' l2) rm2 (.cons (rv1.mono l2) rvs) bd2
theorem se_tup {es : List Expr} {fr : A} {k1 : Nat} (h : SA X es fr) : SE X (.Tuple es k1 pos) (eTup fr) := pe_imp (pe_tupN h) fun σ H Q ⟨ι, ρ, m, z, m', rs, rm, hf, k⟩ => by
  obtain ⟨x, h1, hf⟩ := bind_some hf
  split at hf
  · rename_i hl
    cases hf
    refine ⟨ι, ρ, m, x.1, x.2, rs, rm, h1, fun vs ι1 H1 l1 rm1 rvs bd1 => ⟨by rw [← rvs.length]; exact hl, fun p o hp ho bd => ?_⟩⟩
    have l2 : Le ι1 H1 ι1 (upd H1 p (.frz o (.tup vs))) := ⟨⟨[], by simp, by simp⟩, fun a o h _ => by rw [upd_ne (ne_of_none h hp)]; exact h⟩
    refine k (.ref p) ι1 _ (l1.tr rm1 l2) ⟨rm1.nd, rm1.len, fun n b e => let ⟨a, e1, rb⟩ := rm1.ob n b e; ⟨a, e1, rb.mono l2 (upd_ne fun z => rb.isat (by rw [z]; exact hp))⟩⟩ (.tup (.inl ⟨o, upd_same, ho⟩) (rvs.mono l2)) bd
  · cases hf
theorem se_lst {es : List Expr} {fr : A} (h : SA X es fr) : SE X (.List es pos) (eLst fr) := pe_imp (pe_lst h) fun σ H Q ⟨ι, ρ, m, z, m', rs, rm, hf, k⟩ => by
  obtain ⟨x, h1, hf⟩ := bind_some hf
  split at hf
  · rename_i hl
    cases hf
    refine ⟨ι, ρ, m, x.1, x.2, rs, rm, h1, fun vs ι1 H1 l1 rm1 rvs bd1 => ⟨by rw [← rvs.length]; exact hl, fun p hp bd => ?_⟩⟩
    have l2 : Le ι1 H1 ι1 (upd H1 p (.lst vs)) := ⟨⟨[], by simp, by simp⟩, fun a o h _ => by rw [upd_ne (ne_of_none h hp)]; exact h⟩
    refine k (.ref p) ι1 _ (l1.tr rm1 l2) ⟨rm1.nd, rm1.len, fun n b e => let ⟨a, e1, rb⟩ := rm1.ob n b e; ⟨a, e1, rb.mono l2 (upd_ne fun z => rb.isat (by rw [z]; exact hp))⟩⟩ ⟨p, rfl, l1.back rm1 hp, fun hi => rm1.there p hi hp, vs, upd_same, rvs.mono l2⟩ bd
  · cases hf
end
/-! ### a def's promise -/
def spF (K : PySem.W.Frag) (n : Nat) (F : Fn) : Sp := fun vs H Q _ => ∃ ι ds m r m', ds.length = n ∧ RVs K ι H ds vs ∧ RM K ι H m ∧ F ds m = some (r, m') ∧ ∀ v ι' H', Le ι H ι' H' → RM K ι' H' m' → RO K H ι' H' r v → Q v H'
section
variable {X : Cx} {e : Expr} {es : List Expr} {pos p : Pos} {fr : A} {x : Str} {k n : Nat} {f : Addr} {fd : FuncData} {ps : List Str} {F : Fn}
theorem tCall_of {K : PySem.W.Frag} {ι : List Addr} {ρ : Env} {σ : St} {H : Hp} {m m' : Mem} {z : Out} {Q : VK} (hF : ∀ ds m r, F ds m = some r → ds.length = n) (rs : RS K ι H σ ρ) (rm : RM K ι H m) (hf : eCall F fr ρ m = some (z, m'))
    (k : ∀ v ι' H', Le ι H ι' H' → RM K ι' H' m' → RO K H ι' H' z v → Q v H') : tCall (spF K n F) [] E0 (tA K fr) σ H Q := by
  obtain ⟨x, h1, hf⟩ := bind_some hf
  refine ⟨ι, ρ, m, x.1, x.2, rs, rm, h1, fun vs ι1 H1 l1 rm1 rvs bd1 => ?_⟩
  show spF K n F (vs ++ []) H1 Q E0
  rw [List.append_nil]
  exact ⟨ι1, x.1, x.2, z, m', hF _ _ _ hf, rvs, rm1, hf, fun v ι2 H2 l2 rm2 ro2 => k v ι2 H2 (l1.tr rm1 l2) rm2 (ro2.from l1 rm1)⟩
theorem se_call (h0 : PE X e (tCall (spF X.K n F) [] E0 (tA X.K fr))) (hF : ∀ ds m r, F ds m = some r → ds.length = n) : SE X e (eCall F fr) :=
  pe_imp h0 fun σ H Q ⟨ι, ρ, m, z, m', rs, rm, hf, k⟩ => tCall_of hF rs rm hf k
end
end Q
namespace Q
open PySem L2

/-! ### targets -/
inductive Tg where
  | nm (i : Nat) | tp (is : List Nat)
@[simp] def setAll : List Nat → List D → Env → Option Env
  | [], [], ρ => some ρ
  | i :: is, d :: ds, ρ => setAll is ds (ρ.set i (some d))
  | _, _, _ => none
@[simp] def Tg.put : Tg → D → Env → Option Env
  | .nm i, d, ρ => some (ρ.set i (some d))
  | .tp is, .tup ds, ρ => setAll is ds ρ
  | .tp is, .par ds, ρ => setAll is ds ρ
  | _, _, _ => none
/-- a target that is stored to, any way: data, environment, memory -/
abbrev G := D → Env → Mem → Option (Env × Mem)
def tG (K : PySem.W.Frag) (g : G) : TG := fun v σ H Q => ∃ ι ρ m d ρ' m', RS K ι H σ ρ ∧ RM K ι H m ∧ RV K ι H d v ∧ g d ρ m = some (ρ', m') ∧ ∀ σ' ι' H', Le ι H ι' H' → RS K ι' H' σ' ρ' → RM K ι' H' m' → Q σ' H'
abbrev SG (X : Cx) (e : Expr) (g : G) : Prop := PG X e (tG X.K g)
@[simp] def gT (t : Tg) (d : D) (ρ : Env) (m : Mem) : Option (Env × Mem) := (t.put d ρ).map fun ρ' => (ρ', m)
theorem RS.put {K : PySem.W.Frag} {ι : List Addr} {H : Hp} {σ : St} {ρ : Env} {d : D} {v : V} {i : Nat} (h : RS K ι H σ ρ) (r : RV K ι H d v) : RS K ι H (σ.set i (some v)) (ρ.set i (some d)) := by
  refine ⟨by simp [h.1], fun j d' e => ?_⟩
  by_cases hj : i = j
  · subst hj
    by_cases hl : i < ρ.length
    · rw [List.getElem?_set_self hl] at e
      cases e
      exact ⟨v, by rw [List.getElem?_set_self (by rw [h.1]; exact hl)], r⟩
    · rw [List.getElem?_eq_none (by simpa using hl)] at e; cases e
  · rw [List.getElem?_set_ne hj] at e ⊢
    exact h.2 j d' e
section
variable {X : Cx} {e : Expr}
theorem sg_name {i : Nat} (h : PG X e (gName i)) : SG X e (gT (.nm i)) := pg_imp h fun v σ H Q ⟨ι, ρ, m, d, ρ', m', rs, rm, rv, hg, k⟩ => by
  cases hg
  exact k _ ι H (Le.refl _ _) (rs.put rv) rm
/-- several names -/
def gNames : List Nat → TGs
  | [] => gNil
  | i :: is => gCons (gName i) (gNames is)
theorem gNames_of {K : PySem.W.Frag} {ι : List Addr} {H : Hp} {Q : St → Hp → Prop} : ∀ {is : List Nat} {ds : List D} {vs : List V} {σ : St} {ρ ρ' : Env}, RS K ι H σ ρ → RVs K ι H ds vs → setAll is ds ρ = some ρ' → (∀ σ', RS K ι H σ' ρ' → Q σ' H) → gNames is vs σ H Q
  | [], [], _, σ, ρ, _, rs, .nil, e, k => by cases e; exact ⟨rfl, k σ rs⟩
  | i :: is, d :: ds, _, σ, ρ, _, rs, .cons r t, e, k => ⟨_, _, rfl, gNames_of (is := is) (rs.put r) t e k⟩
  | [], _ :: _, _, _, _, _, _, _, e, _ => by cases e
  | _ :: _, [], _, _, _, _, _, _, e, _ => by cases e
theorem setAll_len : ∀ {is : List Nat} {ds : List D} {ρ ρ' : Env}, setAll is ds ρ = some ρ' → ds.length = is.length
  | [], [], _, _, _ => rfl
  | i :: is, d :: ds, _, _, e => by simp [setAll_len (is := is) (ds := ds) e]
  | [], _ :: _, _, _, e => by cases e
  | _ :: _, [], _, _, e => by cases e
theorem sg_tup {is : List Nat} {n : Nat} (h : PG X e (gTup X.K n (gNames is))) (hn : is.length = n) : SG X e (gT (.tp is)) := pg_imp h fun v σ H Q ⟨ι, ρ, m, d, ρ', m', rs, rm, rv, hg, k⟩ => by
  unfold gT Tg.put at hg
  cases rv with
  | tup hs rvs =>
    obtain ⟨ρ1, e1, e2⟩ := Option.map_eq_some_iff.mp hg
    cases e2
    exact ⟨_, _, rfl, hs.sq, by rw [← rvs.length, setAll_len e1, hn], gNames_of rs rvs e1 fun σ' rs' => k σ' ι H (Le.refl _ _) rs' rm⟩
  | par hs rvs =>
    obtain ⟨ρ1, e1, e2⟩ := Option.map_eq_some_iff.mp hg
    cases e2
    exact ⟨_, _, rfl, .inl (.inl hs), by rw [← rvs.length, setAll_len e1, hn], gNames_of rs rvs e1 fun σ' rs' => k σ' ι H (Le.refl _ _) rs' rm⟩
  | _ => cases hg
end

/-! ### statements -/
@[simp] def sNil (ρ : Env) (m : Mem) : Option R := some (.nx ρ m)
@[simp] def sSeq (a b : S) (ρ : Env) (m : Mem) : Option R := (a ρ m).bind fun r => match r with | .nx ρ' m' => b ρ' m' | r => some r
@[simp] def sPut (e : E) (g : G) (ρ : Env) (m : Mem) : Option R := (e ρ m).bind fun x => (g (val x.1 x.2).1 ρ (val x.1 x.2).2).bind fun y => some (.nx y.1 y.2)
@[simp] def sSet (i : Nat) (e : E) (ρ : Env) (m : Mem) : Option R := (e ρ m).bind fun x => some (.nx (ρ.set i (some (val x.1 x.2).1)) (val x.1 x.2).2)
@[simp] def sPar (is : List Nat) (a : A) (ρ : Env) (m : Mem) : Option R := (a ρ m).bind fun x => (setAll is x.1 ρ).bind fun ρ' => some (.nx ρ' x.2)
@[simp] def sDo (e : E) (ρ : Env) (m : Mem) : Option R := (e ρ m).bind fun x => some (.nx ρ x.2)
@[simp] def sRet (e : E) (ρ : Env) (m : Mem) : Option R := (e ρ m).bind fun x => some (.rt x.1 x.2)
@[simp] def sRetN (_ : Env) (m : Mem) : Option R := some (.rt (.v .non) m)
@[simp] def sIf (c : B) (a b : S) (ρ : Env) (m : Mem) : Option R := (c ρ m).bind fun x => match x.1 with | true => a ρ x.2 | false => b ρ x.2
@[simp] def sBrk (ρ : Env) (m : Mem) : Option R := some (.bk ρ m)
@[simp] def sCnt (ρ : Env) (m : Mem) : Option R := some (.ct ρ m)
@[simp] def sAug (i : Nat) (f : F2) (e : E) (ρ : Env) (m : Mem) : Option R := match ρ[i]? with
  | some (some d) => (e ρ m).bind fun x => (f (.v d) x.1 x.2).bind fun z => some (.nx (ρ.set i (some (val z.1 z.2).1)) (val z.1 z.2).2)
  | _ => none
/-- a wish behind a loop's turn -/
def whL (c : B) (body : S) : Nat → Env → Mem → Option R
  | 0, _, _ => none
  | n + 1, ρ, m => (c ρ m).bind fun x => match x.1 with
    | false => some (.nx ρ x.2)
    | true => (body ρ x.2).bind fun r => match r with
      | .nx ρ' m' => whL c body n ρ' m'
      | .ct ρ' m' => whL c body n ρ' m'
      | .bk ρ' m' => some (.nx ρ' m')
      | .rt r m' => some (.rt r m')
def fuel : Nat := 1000000000
def sWhile (c : B) (body : S) : S := fun ρ m => whL c body fuel ρ m

/-- what is walked: the items; lists that stand in the memory meanwhile -/
structure Src where
  items : List D
  live : List (Nat × Ob) := []
def chk (lv : List (Nat × Ob)) (m : Mem) : Prop := ∀ p ∈ lv, m[p.1]? = some p.2
abbrev I := Env → Mem → Option (Src × Mem)
open Classical in
noncomputable def forL (g : G) (body : S) (lv : List (Nat × Ob)) : List D → Env → Mem → Option R
  | [], ρ, m => if chk lv m then some (.nx ρ m) else none
  | x :: xs, ρ, m => if chk lv m then (g x ρ m).bind fun y => (body y.1 y.2).bind fun r => match r with
      | .nx ρ' m' => forL g body lv xs ρ' m'
      | .ct ρ' m' => forL g body lv xs ρ' m'
      | .bk ρ' m' => some (.nx ρ' m')
      | .rt r m' => some (.rt r m')
    else none
noncomputable def sFor (it : I) (g : G) (body : S) : S := fun ρ m => (it ρ m).bind fun s => forL g body s.1.live s.1.items ρ s.2
/-- the layer's walk J gives the items, from (ι, H) on, as long as the lists stand -/
def Walks (K : PySem.W.Frag) (J : It) (s : Src) (ι : List Addr) (H : Hp) : Prop := ∀ ι2 H2 m2 (i : Nat), Le ι H ι2 H2 → RM K ι2 H2 m2 → chk s.live m2 →
  (s.items.length ≤ i → J.stop i H2) ∧ ∀ d, s.items[i]? = some d → J.go i H2 ∧ ∀ x H3, J.yld i H2 x H3 → Le ι2 H2 ι2 H3 ∧ RM K ι2 H3 m2 ∧ RV K ι2 H3 d x
def tI (K : PySem.W.Frag) (it : I) : TI := fun σ H R => ∃ ι ρ m s m', RS K ι H σ ρ ∧ RM K ι H m ∧ it ρ m = some (s, m') ∧ ∀ J ι' H', Le ι H ι' H' → RM K ι' H' m' → Walks K J s ι' H' → Bnd K H' → s.items.length ≤ sizeLine → R J H'
abbrev SI (X : Cx) (tg e : Expr) (it : I) : Prop := PI X tg e (tI X.K it)
section
variable {X : Cx} {e a b : Expr} {pos p : Pos} {fa : E} {ca : B} {st : Stmt} {sts : List Stmt} {s1 s2 : S} {g : G}
theorem ss_nil : SSs X [] sNil := pss_imp pss_nil fun D σ H ⟨ι, ρ, m, r, rs, rm, hf, k⟩ => by
  cases hf
  exact k σ ι H (Le.refl _ _) rs rm
theorem ss_one (h : SS X st s1) : SSs X [st] s1 := pss_one h
theorem ss_cons (h1 : SS X st s1) (h2 : SSs X sts s2) : SSs X (st :: sts) (sSeq s1 s2) := pss_imp (pss_cons h1 h2) fun D σ H ⟨ι, ρ, m, r, rs, rm, hf, k⟩ => by
  obtain ⟨x, h3, hf⟩ := bind_some hf
  refine ⟨ι, ρ, m, x, rs, rm, h3, ?_⟩
  cases x with
  | nx ρ' m' => exact fun σ1 ι1 H1 l1 rs1 rm1 => ⟨ι1, ρ', m', r, rs1, rm1, hf, k.from l1 rm1⟩
  | rt v m' => cases hf; exact k
  | bk ρ' m' => cases hf; exact k
  | ct ρ' m' => cases hf; exact k
theorem ss_pass : SS X (.Pass pos) sNil := ps_imp ps_pass fun D σ H ⟨ι, ρ, m, r, rs, rm, hf, k⟩ => by
  cases hf
  exact k σ ι H (Le.refl _ _) rs rm
theorem ss_do (h : SE X e fa) (h0 : PS X (.Expr e pos) (tDrop (tE X.K fa))) : SS X (.Expr e pos) (sDo fa) := ps_imp h0 fun D σ H ⟨ι, ρ, m, r, rs, rm, hf, k⟩ => by
  obtain ⟨x, h3, hf⟩ := bind_some hf
  cases hf
  exact ⟨ι, ρ, m, x.1, x.2, rs, rm, h3, fun v ι1 H1 l1 rm1 ro1 bd1 => k σ ι1 H1 l1 (rs.mono l1) rm1⟩
theorem ss_ret (h : SE X e fa) : SS X (.Return (some e) pos) (sRet fa) := ps_imp (ps_ret h) fun D σ H ⟨ι, ρ, m, r, rs, rm, hf, k⟩ => by
  obtain ⟨x, h3, hf⟩ := bind_some hf
  cases hf
  exact ⟨ι, ρ, m, x.1, x.2, rs, rm, h3, fun v ι1 H1 l1 rm1 ro1 bd1 => k v ι1 H1 l1 rm1 ro1⟩
theorem ss_set {i : Nat} (h0 : PS X st (tAsg (tE X.K fa) (gName i))) : SS X st (sSet i fa) := ps_imp h0 fun D σ H ⟨ι, ρ, m, r, rs, rm, hf, k⟩ => by
  obtain ⟨x, h3, hf⟩ := bind_some hf
  cases hf
  refine ⟨ι, ρ, m, x.1, x.2, rs, rm, h3, fun v ι1 H1 l1 rm1 ro1 bd1 => ?_⟩
  obtain ⟨ι2, l2, rm2, rv, rs2, _, _⟩ := ro1.val l1 rm1 (rs.mono l1)
  exact k _ ι2 H1 l2 (rs2.put rv) rm2
theorem ss_put (h0 : PS X st (tAsg (tE X.K fa) (tG X.K g))) : SS X st (sPut fa g) := ps_imp h0 fun D σ H ⟨ι, ρ, m, r, rs, rm, hf, k⟩ => by
  obtain ⟨x, h3, hf⟩ := bind_some hf
  obtain ⟨y, h4, hf⟩ := bind_some hf
  cases hf
  refine ⟨ι, ρ, m, x.1, x.2, rs, rm, h3, fun v ι1 H1 l1 rm1 ro1 bd1 => ?_⟩
  obtain ⟨ι2, l2, rm2, rv, rs2, _, _⟩ := ro1.val l1 rm1 (rs.mono l1)
  exact ⟨ι2, ρ, _, _, y.1, y.2, rs2, rm2, rv, h4, fun σ' ι3 H3 l3 rs3 rm3 => k σ' ι3 H3 (l2.tr rm2 l3) rs3 rm3⟩
theorem ss_par {i j : Nat} {fr : A} (h0 : PS X st (tPar i j (tA X.K fr))) : SS X st (sPar [i, j] fr) := ps_imp h0 fun D σ H ⟨ι, ρ, m, r, rs, rm, hf, k⟩ => by
  obtain ⟨x, h3, hf⟩ := bind_some hf
  obtain ⟨ρ', h4, hf⟩ := bind_some hf
  cases hf
  refine ⟨ι, ρ, m, x.1, x.2, rs, rm, h3, fun vs ι1 H1 l1 rm1 rvs bd1 => ?_⟩
  match h5 : x.1, rvs, h4 with
  | [d1, d2], .cons r1 (.cons r2 .nil), h4 =>
    cases h4
    exact ⟨_, _, rfl, k _ ι1 H1 l1 (((rs.mono l1).put r1).put r2) rm1⟩
theorem ss_par3 {i j l : Nat} {fr : A} (h0 : PS X st (tPar3 i j l (tA X.K fr))) : SS X st (sPar [i, j, l] fr) := ps_imp h0 fun D σ H ⟨ι, ρ, m, r, rs, rm, hf, k⟩ => by
  obtain ⟨x, h3, hf⟩ := bind_some hf
  obtain ⟨ρ', h4, hf⟩ := bind_some hf
  cases hf
  refine ⟨ι, ρ, m, x.1, x.2, rs, rm, h3, fun vs ι1 H1 l1 rm1 rvs bd1 => ?_⟩
  match h5 : x.1, rvs, h4 with
  | [d1, d2, d3], .cons r1 (.cons r2 (.cons r3 .nil)), h4 =>
    cases h4
    exact ⟨_, _, _, rfl, k _ ι1 H1 l1 ((((rs.mono l1).put r1).put r2).put r3) rm1⟩
theorem ss_if {c : Expr} {pa pb : List Stmt} (hc : ST X c ca) (h1 : SSs X pa s1) (h2 : SSs X pb s2) : SS X (.If c pa pb pos) (sIf ca s1 s2) := ps_imp (ps_if hc h1 h2) fun D σ H ⟨ι, ρ, m, r, rs, rm, hf, k⟩ => by
  obtain ⟨x, h3, hf⟩ := bind_some hf
  refine ⟨ι, ρ, m, x.1, x.2, rs, rm, h3, fun ι1 H1 l1 rm1 bd1 => ?_⟩
  split at hf
  · rename_i e1; rw [e1, if_pos rfl]
    exact ⟨ι1, ρ, x.2, r, rs.mono l1, rm1, hf, k.from l1 rm1⟩
  · rename_i e1; rw [e1, if_neg Bool.false_ne_true]
    exact ⟨ι1, ρ, x.2, r, rs.mono l1, rm1, hf, k.from l1 rm1⟩
theorem ss_brk : SS X (.Break pos) sBrk := ps_imp ps_break fun D σ H ⟨ι, ρ, m, r, rs, rm, hf, k⟩ => by
  cases hf
  exact k σ ι H (Le.refl _ _) rs rm
theorem ss_cnt : SS X (.Continue pos) sCnt := ps_imp ps_continue fun D σ H ⟨ι, ρ, m, r, rs, rm, hf, k⟩ => by
  cases hf
  exact k σ ι H (Le.refl _ _) rs rm
theorem ss_aug {i : Nat} {ti : TIp} {f : F2} (h0 : PS X st (tAug i (tE X.K fa) ti)) (hr : R2S X.K ti f) : SS X st (sAug i f fa) := ps_imp h0 fun D σ H ⟨ι, ρ, m, r, rs, rm, hf, k⟩ => by
  unfold sAug at hf
  split at hf
  · rename_i d hd
    obtain ⟨x, h3, hf⟩ := bind_some hf
    obtain ⟨z, h4, hf⟩ := bind_some hf
    cases hf
    obtain ⟨v, e1, e2⟩ := rs.2 i d hd
    refine ⟨v, e1, ι, ρ, m, x.1, x.2, rs, rm, h3, fun u ι1 H1 l1 rm1 ro1 bd1 => ?_⟩
    refine hr ι1 H1 H x.2 (.v d) x.1 z.1 v u z.2 _ rm1 bd1 (e2.mono l1) ro1 h4 fun w ι2 H2 l2 rm2 ro2 => ?_
    obtain ⟨ι3, l3, rm3, rv, rs3, _, _⟩ := (ro2.from l1 rm1).val (l1.tr rm1 l2) rm2 ((rs.mono l1).mono l2)
    exact k _ ι3 H2 l3 (rs3.put rv) rm3
  · cases hf
theorem ss_while (h0 : PS X st (tWhile (tT X.K ca) (tS X.K s1))) : SS X st (sWhile ca s1) := ps_imp h0 fun D σ H ⟨ι, ρ, m, r, rs, rm, hf, k⟩ => by
  refine ⟨fun n σ1 H1 => ∃ ι1 ρ1 m1, Le ι H ι1 H1 ∧ RS X.K ι1 H1 σ1 ρ1 ∧ RM X.K ι1 H1 m1 ∧ whL ca s1 n ρ1 m1 = some r, ⟨fuel, ι, ρ, m, Le.refl _ _, rs, rm, hf⟩, ?_⟩
  rintro n σ1 H1 ⟨ι1, ρ1, m1, l1, rs1, rm1, hw⟩
  cases n with
  | zero => cases hw
  | succ n =>
    obtain ⟨x, h3, hw⟩ := bind_some hw
    refine ⟨ι1, ρ1, m1, x.1, x.2, rs1, rm1, h3, fun ι2 H2 l2 rm2 bd2 => ?_⟩
    have l12 := l1.tr rm1 l2
    split at hw
    · rename_i e1; rw [e1]
      cases hw
      exact iteF (k σ1 ι2 H2 l12 (rs1.mono l2) rm2)
    · rename_i e1; rw [e1]
      refine iteT ?_
      obtain ⟨y, h4, hw⟩ := bind_some hw
      refine ⟨fun σ' H' => ∃ ι' ρ' m', Le ι H ι' H' ∧ RS X.K ι' H' σ' ρ' ∧ RM X.K ι' H' m' ∧ whL ca s1 n ρ' m' = some r, fun σ' H' h => ⟨n, Nat.lt_succ_self n, h⟩, ι2, ρ1, x.2, y, rs1.mono l2, rm2, h4, ?_⟩
      cases y with
      | nx ρ' m' => exact fun σ' ι' H' l' rs' rm' => ⟨ι', ρ', m', l12.tr rm2 l', rs', rm', hw⟩
      | ct ρ' m' => exact fun σ' ι' H' l' rs' rm' => ⟨ι', ρ', m', l12.tr rm2 l', rs', rm', hw⟩
      | bk ρ' m' => cases hw; exact fun σ' ι' H' l' rs' rm' => k σ' ι' H' (l12.tr rm2 l') rs' rm'
      | rt r' m' => cases hw; exact fun v ι' H' l' rm' ro' => k v ι' H' (l12.tr rm2 l') rm' (ro'.from l12 rm2)
theorem ss_for {it : I} (h0 : PS X st (tFor (tI X.K it) (tG X.K g) (tS X.K s1))) : SS X st (sFor it g s1) := ps_imp h0 fun D σ H ⟨ι, ρ, m, r, rs, rm, hf, k⟩ => by
  obtain ⟨s, h3, hf⟩ := bind_some hf
  refine ⟨ι, ρ, m, s.1, s.2, rs, rm, h3, fun J ι0 H0 l0 rm0 wk bd hsz => ?_⟩
  refine ⟨fun i n σ1 H1 => ∃ ι1 ρ1 m1, n = s.1.items.length - i ∧ Le ι0 H0 ι1 H1 ∧ RS X.K ι1 H1 σ1 ρ1 ∧ RM X.K ι1 H1 m1 ∧ forL g s1 s.1.live (s.1.items.drop i) ρ1 m1 = some r, ⟨s.1.items.length, ι0, ρ, s.2, by simp, Le.refl _ _, rs.mono l0, rm0, by simpa using hf⟩, ?_⟩
  rintro i n σ1 H1 ⟨ι1, ρ1, m1, en, l1, rs1, rm1, hw⟩
  by_cases hi : i < s.1.items.length
  · rw [List.drop_eq_getElem_cons hi] at hw
    unfold forL at hw
    split at hw
    · rename_i hc
      obtain ⟨y, h4, hw⟩ := bind_some hw
      obtain ⟨z, h5, hw⟩ := bind_some hw
      obtain ⟨_, w2⟩ := wk ι1 H1 m1 i l1 rm1 hc
      obtain ⟨go, w3⟩ := w2 _ (List.getElem?_eq_getElem hi)
      refine .inr ⟨go, fun σ' H' => ∃ ι' ρ' m', Le ι0 H0 ι' H' ∧ RS X.K ι' H' σ' ρ' ∧ RM X.K ι' H' m' ∧ forL g s1 s.1.live (s.1.items.drop (i + 1)) ρ' m' = some r, fun σ' H' ⟨ι', ρ', m', a, b, c, d⟩ => ⟨s.1.items.length - (i + 1), by omega, ι', ρ', m', rfl, a, b, c, d⟩, fun x H3 hy => ?_⟩
      obtain ⟨l3, rm3, rv3⟩ := w3 x H3 hy
      refine ⟨ι1, ρ1, m1, _, y.1, y.2, rs1.mono l3, rm3, rv3, h4, fun σ' ι4 H4 l4 rs4 rm4 => ?_⟩
      have l14 : Le ι0 H0 ι4 H4 := l1.tr rm1 (l3.tr rm3 l4)
      refine ⟨ι4, y.1, y.2, z, rs4, rm4, h5, ?_⟩
      cases z with
      | nx ρ' m' => exact fun σ' ι' H' l' rs' rm' => ⟨ι', ρ', m', l14.tr rm4 l', rs', rm', hw⟩
      | ct ρ' m' => exact fun σ' ι' H' l' rs' rm' => ⟨ι', ρ', m', l14.tr rm4 l', rs', rm', hw⟩
      | bk ρ' m' => cases hw; exact fun σ' ι' H' l' rs' rm' => k σ' ι' H' (l0.tr rm0 (l14.tr rm4 l')) rs' rm'
      | rt r' m' => cases hw; exact fun v ι' H' l' rm' ro' => k v ι' H' (l0.tr rm0 (l14.tr rm4 l')) rm' (ro'.from (l0.tr rm0 l14) rm4)
    · cases hw
  · rw [List.drop_eq_nil_of_le (by omega)] at hw
    unfold forL at hw
    split at hw
    · rename_i hc
      cases hw
      obtain ⟨w1, _⟩ := wk ι1 H1 m1 i l1 rm1 hc
      exact .inl ⟨w1 (by omega), k σ1 ι1 H1 (l0.tr rm0 l1) rs1 rm1⟩
    · cases hw
end
end Q
namespace Q
open PySem L2

/-! ### comprehensions -/
def wipeE (ρ : Env) : List Nat → Env
  | [] => ρ
  | v :: vs => (wipeE ρ vs).set v none
theorem RS.wipe {K : PySem.W.Frag} {ι : List Addr} {H : Hp} {σ : St} {ρ : Env} (h : RS K ι H σ ρ) : ∀ vs : List Nat, RS K ι H (wipe σ vs) (wipeE ρ vs)
  | [] => h
  | v :: vs => by
    have ih := RS.wipe h vs
    refine ⟨by simp [L2.wipe, wipeE, ih.1], fun j d e => ?_⟩
    unfold wipeE at e
    unfold L2.wipe
    by_cases hj : v = j
    · subst hj
      by_cases hl : v < (wipeE ρ vs).length
      · rw [List.getElem?_set_self hl] at e; cases e
      · rw [List.getElem?_eq_none (by simpa using hl)] at e; cases e
    · rw [List.getElem?_set_ne hj] at e ⊢
      exact ih.2 j d e
def Tg.ixs : Tg → List Nat
  | .nm i => [i]
  | .tp is => is
theorem wipe_comm (σ : St) (i : Nat) (x : Option V) : ∀ vs : List Nat, i ∈ vs → L2.wipe (σ.set i x) vs = L2.wipe σ vs
  | [], h => by cases h
  | v :: vs, h => by
    unfold L2.wipe
    by_cases hv : i ∈ vs
    · rw [wipe_comm σ i x vs hv]
    · have e : i = v := by
        rcases List.mem_cons.mp h with h | h
        · exact h
        · exact absurd h hv
      subst e
      have q : ∀ (us : List Nat), i ∉ us → L2.wipe (σ.set i x) us = (L2.wipe σ us).set i x := by
        intro us
        induction us with
        | nil => intro _; rfl
        | cons u us ih =>
          intro hu
          unfold L2.wipe
          rw [ih fun z => hu (List.mem_cons_of_mem _ z), List.set_comm]
          intro z; subst z; exact hu List.mem_cons_self
      rw [q vs hv, List.set_set]
theorem wipe_wipe (σ : St) : ∀ vs : List Nat, L2.wipe (L2.wipe σ vs) vs = L2.wipe σ vs := fun vs => by
  have q : ∀ (us ws : List Nat), (∀ u ∈ us, u ∈ ws) → L2.wipe (L2.wipe σ us) ws = L2.wipe σ ws := by
    intro us
    induction us with
    | nil => intro ws _; rfl
    | cons u us ih =>
      intro ws h
      show L2.wipe ((L2.wipe σ us).set u none) ws = _
      rw [wipe_comm _ _ _ ws (h u List.mem_cons_self), ih ws fun v hv => h v (List.mem_cons_of_mem _ hv)]
  exact q vs vs fun _ h => h
/-- the layer's reading of a target of names -/
def tgL (K : PySem.W.Frag) : Tg → TG
  | .nm i => gName i
  | .tp is => gTup K is.length (gNames is)
theorem gNames_wipe {K : PySem.W.Frag} {ι : List Addr} {H : Hp} {Q : St → Hp → Prop} {ws : List Nat} : ∀ {is : List Nat} {ds : List D} {vs : List V} {σ : St} {ρ ρ' : Env}, (∀ i ∈ is, i ∈ ws) → RS K ι H σ ρ → RVs K ι H ds vs → setAll is ds ρ = some ρ' →
    (∀ σ', RS K ι H σ' ρ' → L2.wipe σ' ws = L2.wipe σ ws → Q σ' H) → gNames is vs σ H Q
  | [], [], _, σ, ρ, _, _, rs, .nil, e, k => by cases e; exact ⟨rfl, k σ rs rfl⟩
  | i :: is, d :: ds, _, σ, ρ, _, hw, rs, .cons r t, e, k => ⟨_, _, rfl, gNames_wipe (is := is) (fun j hj => hw j (List.mem_cons_of_mem _ hj)) (rs.put r) t e fun σ' rs' e' => k σ' rs' (by rw [e', wipe_comm _ _ _ _ (hw i List.mem_cons_self)])⟩
  | [], _ :: _, _, _, _, _, _, _, _, e, _ => by cases e
  | _ :: _, [], _, _, _, _, _, _, _, e, _ => by cases e
theorem tgL_of {K : PySem.W.Frag} {ι : List Addr} {H : Hp} {Q : St → Hp → Prop} {ws : List Nat} {t : Tg} {d : D} {v : V} {σ : St} {ρ ρ' : Env} (hw : ∀ i ∈ t.ixs, i ∈ ws) (rs : RS K ι H σ ρ) (rv : RV K ι H d v) (e : t.put d ρ = some ρ')
    (k : ∀ σ', RS K ι H σ' ρ' → L2.wipe σ' ws = L2.wipe σ ws → Q σ' H) : tgL K t v σ H Q := by
  cases t with
  | nm i =>
    cases e
    exact k _ (rs.put rv) (wipe_comm _ _ _ _ (hw i (by simp [Tg.ixs])))
  | tp is =>
    cases rv with
    | par hs rvs => exact ⟨_, _, rfl, .inl (.inl hs), by rw [← rvs.length, setAll_len e], gNames_wipe hw rs rvs e k⟩
    | tup hs rvs => exact ⟨_, _, rfl, hs.sq, by rw [← rvs.length, setAll_len e], gNames_wipe hw rs rvs e k⟩
    | _ => cases e
open Classical in
noncomputable def cmpL (t : Tg) (c : B) (f : E) (lv : List (Nat × Ob)) (ρ : Env) : List D → Mem → Option (List D × Mem)
  | [], m => if chk lv m then some ([], m) else none
  | x :: xs, m => if chk lv m then (t.put x ρ).bind fun ρ' => (c ρ' m).bind fun b => match b.1 with
      | true => (f ρ' b.2).bind fun y => (cmpL t c f lv ρ xs (val y.1 y.2).2).bind fun r => some ((val y.1 y.2).1 :: r.1, r.2)
      | false => cmpL t c f lv ρ xs b.2
    else none
noncomputable def eComp (it : I) (vs : List Nat) (t : Tg) (c : B) (f : E) : E := fun ρ m => (it ρ m).bind fun s => (cmpL t c f s.1.live (wipeE ρ vs) s.1.items s.2).bind fun r => some (.o (.lst r.1), r.2)
section
variable {X : Cx} {e : Expr} {fa : E} {ca : B}
theorem cmp_core {K : PySem.W.Frag} {it : I} {vs : List Nat} {t : Tg} {σ : St} {H : Hp} {Q : VK} {ι : List Addr} {ρ : Env} {m m' : Mem} {r : Out} (hw : ∀ i ∈ t.ixs, i ∈ vs) (rs : RS K ι H σ ρ) (rm : RM K ι H m) (hf : eComp it vs t ca fa ρ m = some (r, m'))
    (k : ∀ v ι' H', Le ι H ι' H' → RM K ι' H' m' → RO K H ι' H' r v → Q v H') : tLc (tI K it) (tgL K t) (tT K ca) (tE K fa) vs σ H Q := by
  obtain ⟨s, h3, hf⟩ := bind_some hf
  obtain ⟨rr, h4, hf⟩ := bind_some hf
  cases hf
  refine ⟨ι, ρ, m, s.1, s.2, rs, rm, h3, fun J ι0 H0 l0 rm0 wk bd hsz => ?_⟩
  intro L hL
  have hLi : L ∉ ι0 := fun z => rm0.there L z hL
  -- W: behind i turns the new list holds acc, and the rest of the turns gives rest
  refine ⟨fun i n H1 => ∃ ι1 m1 acc vacc rest, n = s.1.items.length - i ∧ i ≤ s.1.items.length ∧ Le ι0 H0 ι1 H1 ∧ RM K ι1 H1 m1 ∧ L ∉ ι1 ∧ H1 L = some (.lst vacc) ∧ RVs K ι1 H1 acc vacc ∧ acc.length ≤ i ∧
    cmpL t ca fa s.1.live (wipeE ρ vs) (s.1.items.drop i) m1 = some rest ∧ rr = (acc ++ rest.1, rest.2), ⟨s.1.items.length, ι0, s.2, [], [], rr, by simp, Nat.zero_le _, ?_, ?_, hLi, upd_same, .nil, Nat.le_refl _, by simpa using h4, by simp⟩, ?_⟩
  · exact ⟨⟨[], by simp, by simp⟩, fun a o h _ => by rw [upd_ne (ne_of_none h hL)]; exact h⟩
  · refine ⟨rm0.nd, rm0.len, fun n b e => let ⟨a, e1, rb⟩ := rm0.ob n b e; ⟨a, e1, rb.mono ⟨⟨[], by simp, by simp⟩, fun a o h _ => by rw [upd_ne (ne_of_none h hL)]; exact h⟩ (upd_ne fun z => rb.isat (by rw [z]; exact hL))⟩⟩
  rintro i n H1 ⟨ι1, m1, acc, vacc, rest, en, hi, l1, rm1, hL1, eL, rva, hal, hc1, hrr⟩
  by_cases hlt : i < s.1.items.length
  · rw [List.drop_eq_getElem_cons hlt] at hc1
    unfold cmpL at hc1
    split at hc1
    next hc =>
      obtain ⟨ρ', h5, hc1⟩ := bind_some hc1
      obtain ⟨b, h6, hc1⟩ := bind_some hc1
      obtain ⟨_, w2⟩ := wk ι1 H1 m1 i l1 rm1 hc
      obtain ⟨go, w3⟩ := w2 _ (List.getElem?_eq_getElem hlt)
      refine .inr ⟨go, fun H' => ∃ ι1 m1 acc vacc rest, i + 1 ≤ s.1.items.length ∧ Le ι0 H0 ι1 H' ∧ RM K ι1 H' m1 ∧ L ∉ ι1 ∧ H' L = some (.lst vacc) ∧ RVs K ι1 H' acc vacc ∧ acc.length ≤ i + 1 ∧
        cmpL t ca fa s.1.live (wipeE ρ vs) (s.1.items.drop (i + 1)) m1 = some rest ∧ rr = (acc ++ rest.1, rest.2), fun H' ⟨a, b, c, d, e, f⟩ => ⟨s.1.items.length - (i + 1), by omega, a, b, c, d, e, rfl, f⟩, fun x H3 hy => ?_⟩
      obtain ⟨l3, rm3, rv3⟩ := w3 x H3 hy
      have rs3 : RS K ι1 H3 (L2.wipe σ vs) (wipeE ρ vs) := (((rs.mono l0).mono l1).mono l3).wipe vs
      have stay : ∀ {ι' H'}, Le ι1 H3 ι' H' → L ∉ ι' ∧ H' L = some (.lst vacc) := fun {ι' H'} l' => by
        have eL3 : H3 L = some (.lst vacc) := l3.keep L _ eL (.inr hL1)
        refine ⟨fun hm => ?_, l'.keep L _ eL3 (.inr hL1)⟩
        obtain ⟨nw, e2, f⟩ := l'.pre
        rw [e2] at hm
        rcases List.mem_append.mp hm with z | z
        · exact hL1 z
        · rw [f L z] at eL3; cases eL3
      refine tgL_of hw rs3 rv3 h5 fun σ2 rs2 ew => ⟨by rw [ew, wipe_wipe], ?_⟩
      refine ⟨ι1, ρ', m1, b.1, b.2, rs2, rm3, h6, fun ι4 H4 l4 rm4 bd4 => ?_⟩
      have l04 : Le ι0 H0 ι4 H4 := l1.tr rm1 (l3.tr rm3 l4)
      split at hc1
      · rename_i e1
        rw [e1]
        refine iteT ?_
        obtain ⟨y, h7, hc1⟩ := bind_some hc1
        obtain ⟨r2, h8, hc1⟩ := bind_some hc1
        cases hc1
        refine ⟨ι4, ρ', b.2, y.1, y.2, rs2.mono l4, rm4, h7, fun v ι5 H5 l5 rm5 ro5 bd5 => ?_⟩
        obtain ⟨hL5, eL5⟩ := stay (l4.tr rm4 l5)
        have ro6 : RO K H3 ι5 H5 y.1 v := ro5.from l4 rm4
        obtain ⟨ι6, l6, rm6, rv6, rs6, up, ups⟩ := ro6.val (l4.tr rm4 l5) rm5 ((rs2.mono l4).mono l5)
        obtain ⟨hL6, _⟩ := stay l6
        have hz : vacc.length < sizeLine := by rw [← rva.length]; omega
        have mL : Mut (H5 L) := by rw [eL5]; trivial
        have ku : Kp ι6 H5 ι6 (upd H5 L (.lst (vacc ++ [v]))) := Kp.upd mL
        refine ⟨vacc, eL5, hz, ι6, _, acc ++ [(val y.1 y.2).1], vacc ++ [v], r2, by omega, ?_, ?_, hL6, upd_same, ?_, by simp; omega, h8, by rw [hrr]; simp⟩
        · have l06 : Le ι0 H0 ι6 H5 := l1.tr rm1 (l3.tr rm3 l6)
          exact ⟨l06.pre, fun a o h c => by rw [upd_ne (ne_of_none h hL)]; exact l06.keep a o h c⟩
        · exact ⟨rm6.nd, rm6.len, fun n b e => let ⟨a, e1, rb⟩ := rm6.ob n b e; ⟨a, e1, rb.kp ku (upd_ne fun z => by subst z; exact hL6 (List.mem_of_getElem? e1))⟩⟩
        · exact (((ups _ _ (((rva.mono l3).mono l4).mono l5)).append (.cons rv6 .nil))).kp ku
      · rename_i e1
        rw [e1]
        refine iteF ?_
        obtain ⟨hL4, eL4⟩ := stay l4
        exact ⟨ι4, b.2, acc, vacc, rest, by omega, l04, rm4, hL4, eL4, (rva.mono l3).mono l4, by omega, hc1, hrr⟩
    next => cases hc1
  · rw [List.drop_eq_nil_of_le (by omega)] at hc1
    unfold cmpL at hc1
    split at hc1
    next hc =>
      cases hc1
      obtain ⟨w1, _⟩ := wk ι1 H1 m1 i l1 rm1 hc
      refine .inl ⟨w1 (by omega), ?_⟩
      rw [List.append_nil] at hrr
      subst hrr
      exact k _ ι1 H1 (l0.tr rm0 l1) rm1 ⟨L, rfl, l0.back rm0 hL, hL1, vacc, eL, rva⟩
    next => cases hc1
theorem se_comp {it : I} {vs : List Nat} {t : Tg} (h0 : PE X e (tLc (tI X.K it) (tgL X.K t) (tT X.K ca) (tE X.K fa) vs)) (hw : ∀ i ∈ t.ixs, i ∈ vs) : SE X e (eComp it vs t ca fa) := pe_imp h0 fun σ H Q ⟨ι, ρ, m, z, m', rs, rm, hf, k⟩ => cmp_core hw rs rm hf k
theorem ss_setComp {st : Stmt} {it : I} {vs : List Nat} {t : Tg} {i : Nat} (h0 : PS X st (tAsg (tLc (tI X.K it) (tgL X.K t) (tT X.K ca) (tE X.K fa) vs) (gName i))) (hw : ∀ i ∈ t.ixs, i ∈ vs) : SS X st (sSet i (eComp it vs t ca fa)) := ps_imp h0 fun D σ H ⟨ι, ρ, m, r, rs, rm, hf, k⟩ => by
  obtain ⟨x, h3, hf⟩ := bind_some hf
  cases hf
  refine cmp_core hw rs rm (r := x.1) (m' := x.2) h3 fun v ι1 H1 l1 rm1 ro1 => ?_
  obtain ⟨ι2, l2, rm2, rv, rs2, _, _⟩ := ro1.val l1 rm1 (rs.mono l1)
  exact k _ ι2 H1 l2 (rs2.put rv) rm2
end

/-! ### a def's end: what it made goes, but for what it hands back -/
mutual
def D.lo (n : Nat) : D → Prop
  | .tup xs => loL n xs
  | .fl xs => loL n xs
  | .par xs => loL n xs
  | .ref k => k < n
  | .lam _ xs => loL n xs
  | _ => True
def loL (n : Nat) : List D → Prop
  | [] => True
  | d :: ds => d.lo n ∧ loL n ds
end
def loK (n : Nat) : List (D × D) → Prop
  | [] => True
  | d :: ds => d.1.lo n ∧ d.2.lo n ∧ loK n ds
def Ob.lo (n : Nat) : Ob → Prop
  | .lst xs => loL n xs
  | .dct kvs => loK n kvs
  | .dcr kvs => loK n kvs
  | .tab _ => True
def okM (m m' : Mem) : Prop := ∀ i b, i < m.length → m'[i]? = some b → m[i]? = some b ∨ b.lo m.length
open Classical in
noncomputable def shut (m : Mem) (r : Out) (m' : Mem) : Out × Mem :=
  if okM m m' then match r with
    | .v d => if d.lo m.length then (.v d, m'.take m.length) else match d with
      | .ref k => (match m'[k]? with
        | some b => if b.lo m.length then (.o b, m'.take m.length) else (.v (.ref k), m')
        | none => (.v (.ref k), m'))
      | d => (.v d, m')
    | .o b => if b.lo m.length then (.o b, m'.take m.length) else (.o b, m')
  else (r, m')
noncomputable def fnD (np ns : Nat) (body : S) : Fn := fun ds m => if ds.length = np then (body (ds.map some ++ List.replicate (ns - np) none) m).bind fun r => match r with
  | .rt x m' => some (shut m x m')
  | .nx _ m' => some (shut m (.v .non) m')
  | _ => none
  else none
section
variable {K : PySem.W.Frag} {ι ι' : List Addr} {H H' : Hp} {m m' : Mem}
mutual
theorem RV.down {n : Nat} (e : ∀ k a, k < n → ι'[k]? = some a → ι[k]? = some a) : ∀ {d : D} {v : V}, RV K ι' H d v → d.lo n → RV K ι H d v
  | _, _, .non, _ => .non
  | _, _, .bl b, _ => .bl b
  | _, _, .int i, _ => .int i
  | _, _, .str s, _ => .str s
  | _, _, .tup h r, b => .tup h (RVs.down e r (by simpa [D.lo] using b))
  | _, _, .fl h r, b => .fl h (RVs.down e r (by simpa [D.lo] using b))
  | _, _, .par h r, b => .par h (RVs.down e r (by simpa [D.lo] using b))
  | _, _, .ref h, b => .ref (e _ _ (by simpa [D.lo] using b) h)
  | _, _, .lam h r, b => .lam h (RVs.down e r (by simpa [D.lo] using b))
theorem RVs.down {n : Nat} (e : ∀ k a, k < n → ι'[k]? = some a → ι[k]? = some a) : ∀ {ds : List D} {vs : List V}, RVs K ι' H ds vs → loL n ds → RVs K ι H ds vs
  | _, _, .nil, _ => .nil
  | _, _, .cons h r, b => by
    rw [loL] at b
    exact .cons (RV.down e h b.1) (RVs.down e r b.2)
end
mutual
theorem RV.bel : ∀ {d : D} {v : V}, RV K ι H d v → d.lo ι.length
  | _, _, .non => by simp [D.lo]
  | _, _, .bl b => by simp [D.lo]
  | _, _, .int i => by simp [D.lo]
  | _, _, .str s => by simp [D.lo]
  | _, _, .tup h r => by rw [D.lo]; exact RVs.bel r
  | _, _, .fl h r => by rw [D.lo]; exact RVs.bel r
  | _, _, .par h r => by rw [D.lo]; exact RVs.bel r
  | _, _, .ref h => by rw [D.lo]; exact (List.getElem?_eq_some_iff.mp h).1
  | _, _, .lam h r => by rw [D.lo]; exact RVs.bel r
theorem RVs.bel : ∀ {ds : List D} {vs : List V}, RVs K ι H ds vs → loL ι.length ds
  | _, _, .nil => by simp [loL]
  | _, _, .cons h r => by rw [loL]; exact ⟨RV.bel h, RVs.bel r⟩
end
mutual
theorem noRefKey (n : Nat) : ∀ k : Key, (kD k).lo n
  | .inl i => by simp [kD, D.lo]
  | .inr i => by simp [kD, D.lo]
end
theorem noRefKeys (n : Nat) : ∀ ks : List Key, loL n (ks.map kD)
  | [] => by simp [loL]
  | k :: ks => by simp only [List.map_cons]; rw [loL]; exact ⟨noRefKey n k, noRefKeys n ks⟩
mutual
theorem noRefN (n : Nat) : ∀ k : NestedKey, (kN k).lo n
  | .none => by simp [kN, D.lo]
  | .num i => by simp [kN, D.lo]
  | .text i => by simp [kN, D.lo]
  | .tup ks => by rw [kN, D.lo]; exact noRefNs n ks
theorem noRefNs (n : Nat) : ∀ ks : List NestedKey, loL n (kNs ks)
  | [] => by rw [kNs, loL]; trivial
  | k :: ks => by rw [kNs, loL]; exact ⟨noRefN n k, noRefNs n ks⟩
end
theorem RB.bel {b : Ob} {a : Addr} (h : RB K ι H b a) : b.lo ι.length := by
  cases b with
  | lst xs => obtain ⟨vs, _, r⟩ := h; exact r.bel
  | dct kvs =>
    obtain ⟨ks, e1, r⟩ := h
    show loK _ _
    clear e1
    induction r with
    | nil => simp [loK]
    | cons h _ ih => rw [loK]; exact ⟨by rw [h.1]; exact noRefKey _ _, h.2.bel, ih⟩
  | dcr kvs =>
    obtain ⟨ks, e1, r⟩ := h
    show loK _ _
    clear e1
    induction r with
    | nil => simp [loK]
    | cons h _ ih => rw [loK]; exact ⟨by rw [h.1]; exact noRefN _ _, h.2.bel, ih⟩
  | tab q => trivial
theorem RB.down {b : Ob} {a : Addr} {n : Nat} (e : ∀ k a, k < n → ι'[k]? = some a → ι[k]? = some a) (h : RB K ι' H b a) (hb : b.lo n) : RB K ι H b a := by
  cases b with
  | lst xs => obtain ⟨vs, e1, r⟩ := h; exact ⟨vs, e1, r.down e hb⟩
  | dct kvs =>
    have hb' : loK n kvs := hb
    obtain ⟨ks, e1, r⟩ := h
    refine ⟨ks, e1, ?_⟩
    clear hb e1
    induction r with
    | nil => exact .nil
    | cons h _ ih => rw [loK] at hb'; exact .cons ⟨h.1, h.2.down e hb'.2.1⟩ (ih hb'.2.2)
  | dcr kvs =>
    have hb' : loK n kvs := hb
    obtain ⟨ks, e1, r⟩ := h
    refine ⟨ks, e1, ?_⟩
    clear hb e1
    induction r with
    | nil => exact .nil
    | cons h _ ih => rw [loK] at hb'; exact .cons ⟨h.1, h.2.down e hb'.2.1⟩ (ih hb'.2.2)
  | tab q => exact h
theorem shut_ok {r : Out} {v : V} (rm0 : RM K ι H m) (l : Le ι H ι' H') (rm : RM K ι' H' m') (ro : RO K H ι' H' r v) : ∃ ι2, Le ι H ι2 H' ∧ RM K ι2 H' (shut m r m').2 ∧ RO K H ι2 H' (shut m r m').1 v := by
  obtain ⟨nw, e, hn⟩ := l.pre
  have le0 : Le ι H ι H' := ⟨⟨[], by simp, by simp⟩, l.keep⟩
  have dn : ∀ k a, k < m.length → ι'[k]? = some a → ι[k]? = some a := fun k a hk h => by
    rw [e, List.getElem?_append_left (by rw [rm0.len]; exact hk)] at h; exact h
  have keepAll : (RM K ι' H' m' ∧ RO K H ι' H' r v) := ⟨rm, ro⟩
  by_cases hok : okM m m'
  · have hlen : m.length ≤ m'.length := by rw [← rm0.len, ← rm.len, e]; simp
    have rmT : RM K ι H' (m'.take m.length) := by
      refine ⟨rm0.nd, by rw [List.length_take, rm0.len]; omega, fun n b hb => ?_⟩
      have hnl : n < m.length := by
        have := (List.getElem?_eq_some_iff.mp hb).1
        rw [List.length_take] at this; omega
      rw [List.getElem?_take_of_lt hnl] at hb
      obtain ⟨a, e1, rb⟩ := rm.ob n b hb
      have bb : b.lo m.length := by
        rcases hok n b hnl hb with h | h
        · obtain ⟨_, _, rb0⟩ := rm0.ob n b h
          have := rb0.bel; rw [rm0.len] at this; exact this
        · exact h
      exact ⟨a, dn n a hnl e1, rb.down dn bb⟩
    unfold shut
    rw [if_pos hok]
    cases r with
    | v d =>
      by_cases hb : d.lo m.length
      · simp only [if_pos hb]
        exact ⟨ι, le0, rmT, RV.down dn ro hb⟩
      · simp only [if_neg hb]
        cases d with
        | ref k =>
          cases hk : m'[k]? with
          | none => simp only [hk]; exact ⟨ι', l, rm, ro⟩
          | some b =>
            by_cases hbb : b.lo m.length
            · simp only [hk, if_pos hbb]
              obtain ⟨a, e1, rb⟩ := rm.ob k b hk
              cases ro with
              | ref h1 =>
                rw [e1] at h1
                cases h1
                have hk2 : m.length ≤ k := by
                  rw [D.lo] at hb; omega
                have hm : a ∈ nw := by
                  rw [e, List.getElem?_append_right (by rw [rm0.len]; exact hk2)] at e1
                  exact List.mem_of_getElem? e1
                exact ⟨ι, le0, rmT, a, rfl, hn a hm, fun z => rm0.there a z (hn a hm), rb.down dn hbb⟩
            · simp only [hk, if_neg hbb]
              exact ⟨ι', l, rm, ro⟩
        | _ => exact ⟨ι', l, rm, ro⟩
    | o b =>
      by_cases hb : b.lo m.length
      · simp only [if_pos hb]
        obtain ⟨p, e1, e2, e3, rb⟩ := ro
        exact ⟨ι, le0, rmT, p, e1, e2, fun z => e3 (l.subset p z), rb.down dn hb⟩
      · simp only [if_neg hb]
        exact ⟨ι', l, rm, ro⟩
  · unfold shut
    rw [if_neg hok]
    exact ⟨ι', l, rm, ro⟩
end
theorem fnD_len {np ns : Nat} {body : S} : ∀ ds m r, fnD np ns body ds m = some r → ds.length = np := fun ds m r h => by
  unfold fnD at h
  split at h
  · assumption
  · cases h
section
variable {P : Program} {w : World} {K : PySem.W.Frag} {mg : Str → Option Value} {base : Heap}
theorem RVs.start {ι : List Addr} {H : Hp} {N : List Str} : ∀ {ds : List D} {vs : List V}, RVs K ι H ds vs → RS K ι H (start N vs) (ds.map some ++ List.replicate (N.length - ds.length) none) := fun {ds vs} r => by
  unfold L2.start
  rw [r.length]
  refine ⟨by simp [r.length], fun i d e => ?_⟩
  by_cases hi : i < ds.length
  · rw [List.getElem?_append_left (by simpa using hi), List.getElem?_map] at e
    cases q : ds[i]? with
    | none => rw [q] at e; cases e
    | some d' =>
      rw [q] at e
      cases e
      obtain ⟨v, h1, h2⟩ := r.get q
      exact ⟨v, by rw [List.getElem?_append_left (by rw [List.length_map, ← r.length]; exact hi), List.getElem?_map, h1]; rfl, h2⟩
  · rw [List.getElem?_append_right (by simpa using hi), List.getElem?_replicate] at e
    split at e <;> cases e
/-- THE RULE for a def -/
theorem fn_ok {x qual : Str} {st : Stmt} {f : Addr} {fd : FuncData} {N ps : List Str} {k : Nat} {body : S} {np ns : Nat} (F : Fun K x qual st f fd) (Sc : FnScope N ps (defScope st)) (hp : ps.length = np) (hn : N.length = ns)
    (hb : ∀ (cdv : Value) (A : Around) (outer : List PySem.Env) (s : Shared) (H : Hp) (E : XK), Room k (A.deeper (PyProof.Rows.envOfC qual (defScope st) s.heap.objs.size f cdv)) → SSs (cxOf CX0 P w K mg base N qual (defScope st) f cdv A outer s H E).nox (defBody st) body) :
    FnOk P w K mg base CX0 (k + 1) f fd ps (spF K np (fnD np ns body)) := by
  refine F.ok Sc (fun vs H Q E h => ?_) (fun cdv A outer s H vs Q E hr h => ?_)
  · obtain ⟨ι, ds, m, r, m', hl, rvs, _⟩ := h
    rw [← rvs.length, hl, hp]
  · obtain ⟨ι, ds, m, r, m', hl, rvs, rm, hf, k⟩ := h
    refine ⟨_, hb cdv A outer s H E hr, ?_⟩
    unfold fnD at hf
    rw [if_pos hl] at hf
    obtain ⟨z, h1, hf⟩ := bind_some hf
    have rs := rvs.start (N := N)
    rw [hl, hn] at rs
    refine ⟨ι, _, m, z, rs, rm, h1, ?_⟩
    cases z with
    | rt x m1 =>
      have e : shut m x m1 = (r, m') := Option.some.inj hf
      intro v ι1 H1 l1 rm1 ro1
      obtain ⟨ι2, a, b, c⟩ := shut_ok rm l1 rm1 ro1
      rw [e] at b c
      exact k v ι2 H1 a b c
    | nx ρ' m1 =>
      have e : shut m (.v .non) m1 = (r, m') := Option.some.inj hf
      intro σ ι1 H1 l1 rs1 rm1
      obtain ⟨ι2, a, b, c⟩ := shut_ok (r := .v .non) (v := V.non) rm l1 rm1 (show RO K H ι1 H1 (.v .non) V.non from RV.non)
      rw [e] at b c
      exact k _ ι2 H1 a b c
    | bk _ _ => cases hf
    | ct _ _ => cases hf
end
end Q
namespace Q
open PySem L2

/-! ### helpers -/
theorem bdec {α : Type} [DecidableEq α] (a b : α) [BEq α] [LawfulBEq α] : (a == b) = decide (a = b) := by
  by_cases h : a = b
  · subst h; simp
  · simp [h]
theorem RVs.rep {K : PySem.W.Frag} {ι : List Addr} {H : Hp} {ds : List D} {vs : List V} (r : RVs K ι H ds vs) : ∀ n : Nat, RVs K ι H (List.replicate n ds).flatten (List.replicate n vs).flatten
  | 0 => .nil
  | n + 1 => by rw [List.replicate_succ, List.replicate_succ, List.flatten_cons, List.flatten_cons]; exact r.append (r.rep n)
theorem nd_inj {α : Type} {l : List α} (nd : l.Nodup) {i j : Nat} (hi : i < l.length) (hj : j < l.length) (e : l[i] = l[j]) : i = j := by
  have q := List.pairwise_iff_getElem.mp nd
  rcases Nat.lt_trichotomy i j with h | h | h
  · exact absurd e (q i j hi hj h)
  · exact h
  · exact absurd e.symm (q j i hj hi h)
section
variable {K : PySem.W.Frag} {ι : List Addr} {H H0 : Hp} {m : Mem} {p : Addr} {vs : List V} {ds : List D}
theorem Le.newAt {o : HO} (hp : H p = none) : Le ι H ι (upd H p o) := ⟨⟨[], by simp, by simp⟩, fun a u h _ => by rw [upd_ne (ne_of_none h hp)]; exact h⟩
theorem RM.newAt {o : HO} (rm : RM K ι H m) (hp : H p = none) : RM K ι (upd H p o) m :=
  ⟨rm.nd, rm.len, fun n b e => let ⟨a, e1, rb⟩ := rm.ob n b e; ⟨a, e1, rb.mono (Le.newAt hp) (upd_ne fun z => rb.isat (by rw [z]; exact hp))⟩⟩
theorem new_tup {o : Obj} (hp : H p = none) (ho : o.dict = none) (r : RVs K ι H ds vs) : RV K ι (upd H p (.frz o (.tup vs))) (.tup ds) (.ref p) := .tup (.inl ⟨o, upd_same, ho⟩) (r.mono (Le.newAt hp))
theorem new_par (hp : H p = none) (r : RVs K ι H ds vs) : RV K ι (upd H p (.tup vs)) (.par ds) (.ref p) := .par upd_same (r.mono (Le.newAt hp))
theorem new_lst (rm : RM K ι H m) (hp : H p = none) (r : RVs K ι H ds vs) : RO K H ι (upd H p (.lst vs)) (.o (.lst ds)) (.ref p) := ⟨p, rfl, hp, fun z => rm.there p z hp, vs, upd_same, r.mono (Le.newAt hp)⟩
/-- a list in the memory is written -/
theorem set_lst {n : Nat} {a : Addr} {ws : List V} {es : List D} (rm : RM K ι H m) (e : ι[n]? = some a) (h : H a = some (.lst ws)) (r : RVs K ι H es vs) :
    Le ι H ι (upd H a (.lst vs)) ∧ RM K ι (upd H a (.lst vs)) (m.set n (.lst es)) := by
  have mu : Mut (H a) := by rw [h]; trivial
  have ku : Kp ι H ι (upd H a (.lst vs)) := Kp.upd mu
  have ha : a ∈ ι := List.mem_of_getElem? e
  refine ⟨⟨⟨[], by simp, by simp⟩, fun b u hb c => ?_⟩, ⟨rm.nd, by simp [rm.len], fun k b hb => ?_⟩⟩
  · by_cases z : b = a
    · subst z
      rw [hb] at mu
      rcases c with c | c
      · exact (nofz mu c).elim
      · exact absurd ha c
    · rw [upd_ne z]; exact hb
  · by_cases z : n = k
    · subst z
      have hl : n < m.length := by rw [← rm.len]; exact (List.getElem?_eq_some_iff.mp e).1
      rw [List.getElem?_set_self hl] at hb
      cases hb
      exact ⟨a, e, vs, upd_same, r.kp ku⟩
    · rw [List.getElem?_set_ne z] at hb
      obtain ⟨a', e1, rb⟩ := rm.ob k b hb
      refine ⟨a', e1, rb.kp ku (upd_ne fun q => z ?_)⟩
      subst q
      have h1 := (List.getElem?_eq_some_iff.mp e)
      have h2 := (List.getElem?_eq_some_iff.mp e1)
      exact nd_inj rm.nd h1.1 h2.1 (h1.2.trans h2.2.symm)
end
/-- lists and tuples that are read -/
def seqOf (x : Out) (m : Mem) : Option (List D) := match x with
  | .v (.tup a) => some a
  | .v (.fl a) => some a
  | .v (.ref n) => (match m[n]? with | some (.lst a) => some a | _ => none)
  | .o (.lst a) => some a
  | _ => none
/-- lists that stand in the heap by themselves -/
def lstOf (x : Out) (m : Mem) : Option (List D) := match x with
  | .v (.ref n) => (match m[n]? with | some (.lst a) => some a | _ => none)
  | .o (.lst a) => some a
  | _ => none
section
variable {K : PySem.W.Frag} {ι : List Addr} {H H0 : Hp} {m : Mem} {x : Out} {v : V} {xs : List D}
theorem lst_at (rm : RM K ι H m) (ro : RO K H0 ι H x v) (h : lstOf x m = some xs) : ∃ a vs, v = .ref a ∧ H a = some (.lst vs) ∧ RVs K ι H xs vs := by
  unfold lstOf at h
  split at h
  · split at h
    · rename_i n _ ys hm
      cases h
      cases ro with
      | ref e =>
        obtain ⟨a, e1, vs, e2, r⟩ := rm.ob _ _ hm
        rw [e] at e1
        cases e1
        exact ⟨_, vs, rfl, e2, r⟩
    · cases h
  · cases h
    obtain ⟨p, e, _, _, vs, e2, r⟩ := ro
    exact ⟨p, vs, e, e2, r⟩
  · cases h
theorem seq_at (rm : RM K ι H m) (ro : RO K H0 ι H x v) (h : seqOf x m = some xs) : ∃ a vs, v = .ref a ∧ (SqL K H a vs ∨ SqT K H a vs) ∧ RVs K ι H xs vs := by
  unfold seqOf at h
  split at h
  · cases h
    cases ro with
    | tup hs r => exact ⟨_, _, rfl, .inr hs.sq, r⟩
  · cases h
    cases ro with
    | fl hs r => exact ⟨_, _, rfl, .inl hs.sq, r⟩
  · split at h
    · rename_i n _ ys hm
      cases h
      cases ro with
      | ref e =>
        obtain ⟨a, e1, vs, e2, r⟩ := rm.ob _ _ hm
        rw [e] at e1
        cases e1
        exact ⟨_, vs, rfl, .inl (.inl (.inl e2)), r⟩
    · cases h
  · cases h
    obtain ⟨p, e, _, _, vs, e2, r⟩ := ro
    exact ⟨p, vs, e, .inl (.inl (.inl e2)), r⟩
  · cases h
end

/-- lists and tuples, apart -/
theorem seq_at2 {K : PySem.W.Frag} {ι : List Addr} {H H0 : Hp} {m : Mem} {x : Out} {v : V} {xs : List D} (rm : RM K ι H m) (ro : RO K H0 ι H x v) (h : seqOf x m = some xs) : (∃ a vs, v = .ref a ∧ SqL K H a vs ∧ RVs K ι H xs vs) ∨ ∃ a vs, v = .ref a ∧ TpAt K H a vs ∧ RVs K ι H xs vs := by
  unfold seqOf at h
  split at h
  · cases h
    cases ro with
    | tup hs r => exact .inr ⟨_, _, rfl, hs, r⟩
  · cases h
    cases ro with
    | fl hs r => exact .inl ⟨_, _, rfl, hs.sq, r⟩
  · split at h
    · rename_i n _ ys hm
      cases h
      cases ro with
      | ref e =>
        obtain ⟨a, e1, vs, e2, r⟩ := rm.ob _ _ hm
        rw [e] at e1
        cases e1
        exact .inl ⟨_, vs, rfl, .inl (.inl e2), r⟩
    · cases h
  · cases h
    obtain ⟨p, e, _, _, vs, e2, r⟩ := ro
    exact .inl ⟨p, vs, e, .inl (.inl e2), r⟩
  · cases h
/-! ### + -/
noncomputable def addF (x : Out) (y : Out) (m : Mem) : Option (Out × Mem) := match x, y with
  | .v (.int i), .v (.int j) => some (.v (.int (i + j)), m)
  | .v (.str a), .v (.str b) => if fits (a.length + b.length) then some (.v (.str (a ++ b)), m) else none
  | .v (.tup a), .v (.tup b) => if fits (a.length + b.length) then some (.v (.tup (a ++ b)), m) else none
  | x, y => (lstOf x m).bind fun a => (lstOf y m).bind fun b => if fits (a.length + b.length) then some (.o (.lst (a ++ b)), m) else none
def rAddU (K : PySem.W.Frag) : R2 := fun x y H Q => ((((∃ i j, x = .int i ∧ y = .int j ∧ Q (.int (i + j)) H) ∨ (∃ i j, x = .str i ∧ y = .str j ∧ i.length + j.length ≤ sizeLine ∧ Q (.str (i ++ j)) H)) ∨ rCatN K x y H Q) ∨ rCat x y H Q)
theorem op_addU {X : Cx} : OpR X (binaryOp .Add) (rAddU X.K) := ((op_add.or op_add_str).or op_catN).or op_cat
theorem addU {K : PySem.W.Frag} : R2S K (rAddU K) addF := by
  intro ι H H0 m x y z vx vy m' Q rm bd rx ry hf k
  unfold addF at hf
  split at hf
  · cases hf; cases rx; cases ry
    exact .inl (.inl (.inl ⟨_, _, rfl, rfl, k _ ι H (Le.refl _ _) rm (RV.int _)⟩))
  · split at hf
    · rename_i hl; cases hf; cases rx; cases ry
      exact .inl (.inl (.inr ⟨_, _, rfl, rfl, hl, k _ ι H (Le.refl _ _) rm (RV.str _)⟩))
    · cases hf
  · split at hf
    · rename_i hl; cases hf
      cases rx with
      | tup h1 r1 =>
        cases ry with
        | tup h2 r2 =>
          refine .inl (.inr ⟨_, _, _, _, rfl, rfl, h1.sq, h2.sq, by rw [← r1.length, ← r2.length]; exact hl, fun e => ?_, fun _ e => ?_, fun _ _ p o hp ho => ?_⟩)
          · subst e; cases r1
            exact k _ ι H (Le.refl _ _) rm (RV.tup h2 r2)
          · subst e; cases r2
            rw [List.append_nil] at k
            exact k _ ι H (Le.refl _ _) rm (RV.tup h1 r1)
          · exact k _ ι _ (Le.newAt hp) (rm.newAt hp) (new_tup hp ho (r1.append r2))
    · cases hf
  · obtain ⟨a, h1, hf⟩ := bind_some hf
    obtain ⟨b, h2, hf⟩ := bind_some hf
    split at hf
    · rename_i hl; cases hf
      obtain ⟨p1, v1, rfl, e1, r1⟩ := lst_at rm rx h1
      obtain ⟨p2, v2, rfl, e2, r2⟩ := lst_at rm ry h2
      exact .inr ⟨_, _, _, _, rfl, rfl, e1, e2, by rw [← r1.length, ← r2.length]; exact hl, fun p hp => k _ ι _ (Le.newAt hp) (rm.newAt hp) (new_lst rm hp (r1.append r2))⟩
    · cases hf

/-! ### other arithmetic of ints -/
def subF (x : Out) (y : Out) (m : Mem) : Option (Out × Mem) := match x, y with
  | .v (.int i), .v (.int j) => some (.v (.int (i - j)), m)
  | _, _ => none
theorem subU {K : PySem.W.Frag} : R2S K (rI0 fun i j => .int (i - j)) subF := by
  intro ι H H0 m x y z vx vy m' Q rm bd rx ry hf k
  unfold subF at hf
  split at hf
  · cases hf; cases rx; cases ry
    exact ⟨_, _, rfl, rfl, k _ ι H (Le.refl _ _) rm (RV.int _)⟩
  · cases hf
def modF (x : Out) (y : Out) (m : Mem) : Option (Out × Mem) := match x, y with
  | .v (.int i), .v (.int j) => if 0 < j then some (.v (.int (i % j)), m) else none
  | _, _ => none
theorem modU {K : PySem.W.Frag} : R2S K (rI (fun _ j => 0 < j) fun i j => .int (i % j)) modF := by
  intro ι H H0 m x y z vx vy m' Q rm bd rx ry hf k
  unfold modF at hf
  split at hf
  · split at hf
    · rename_i hj; cases hf; cases rx; cases ry
      exact ⟨_, _, rfl, rfl, hj, k _ ι H (Le.refl _ _) rm (RV.int _)⟩
    · cases hf
  · cases hf
def divOk (j : Int) : Prop := 0 < j ∧ j < 1073741824
noncomputable instance (j : Int) : Decidable (divOk j) := Classical.propDecidable _
@[simp] theorem divOk_nat {n : Nat} (h : 0 < n) (h2 : n ≤ 100000) : divOk (n : Int) := ⟨by omega, by omega⟩
@[simp] theorem divOk_2 : divOk 2 := ⟨by omega, by omega⟩
@[simp] theorem divOk_65537 : divOk 65537 := ⟨by omega, by omega⟩
noncomputable def divF (x : Out) (y : Out) (m : Mem) : Option (Out × Mem) := match x, y with
  | .v (.int i), .v (.int j) => if divOk j then some (.v (.int (i / j)), m) else none
  | _, _ => none
theorem divU {K : PySem.W.Frag} : R2S K (rI CDiv fun i j => .int (i / j)) divF := by
  intro ι H H0 m x y z vx vy m' Q rm bd rx ry hf k
  unfold divF at hf
  split at hf
  · split at hf
    · rename_i hj; cases hf; cases rx; cases ry
      exact ⟨_, _, rfl, rfl, hj, k _ ι H (Le.refl _ _) rm (RV.int _)⟩
    · cases hf
  · cases hf
def powOk (i j : Int) : Prop := 0 ≤ j ∧ j ≤ 1000000 ∧ i.natAbs < 2 ^ 64
noncomputable instance (i j : Int) : Decidable (powOk i j) := Classical.propDecidable _
noncomputable def powF (x : Out) (y : Out) (m : Mem) : Option (Out × Mem) := match x, y with
  | .v (.int i), .v (.int j) => if powOk i j then some (.v (.int (i ^ j.toNat)), m) else none
  | _, _ => none
theorem powU {K : PySem.W.Frag} : R2S K (rI CPow fun i j => .int (i ^ j.toNat)) powF := by
  intro ι H H0 m x y z vx vy m' Q rm bd rx ry hf k
  unfold powF at hf
  split at hf
  · split at hf
    · rename_i hj; cases hf; cases rx; cases ry
      exact ⟨_, _, rfl, rfl, hj, k _ ι H (Le.refl _ _) rm (RV.int _)⟩
    · cases hf
  · cases hf
def strMulOk (a : Str) (n : Int) : Prop := -(2 ^ 63) ≤ n ∧ n < 2 ^ 63 ∧ a.length * n.toNat ≤ sizeLine
theorem op_mul_str {X : Cx} : OpR X (binaryOp .Mult) (fun x y H Q => ∃ a n, x = .str a ∧ y = .int n ∧ MulOk a n ∧ Q (.str (Txt.mul a n)) H) := by
  intro pins s σ H x y v u Q I rx ry h
  obtain ⟨a, n, rfl, rfl, hok, q⟩ := h
  obtain ⟨t, rfl⟩ := rx
  obtain ⟨t', rfl⟩ := ry
  exact SB.mul hok fun t' k => ⟨.str (Txt.mul a n), H, I.tok _, ⟨_, rfl⟩, q⟩
/-- within 63 bits; a small power -/
def i63 (n : Int) : Prop := -(2 ^ 63) ≤ n ∧ n < 2 ^ 63
noncomputable instance (i : Int) : Decidable (i63 i) := Classical.propDecidable _
@[simp] theorem i63_of {n : Int} (h : -1000000000 ≤ n) (h2 : n ≤ 1000000000) : i63 n := ⟨by omega, by omega⟩
/-- products: one side within 64 bits -/
def mulOk (i j : Int) : Prop := (-(2 ^ 64) < i ∧ i < 2 ^ 64) ∨ (-(2 ^ 64) < j ∧ j < 2 ^ 64)
noncomputable instance (i j : Int) : Decidable (mulOk i j) := Classical.propDecidable _
noncomputable def mulF (x : Out) (y : Out) (m : Mem) : Option (Out × Mem) := match x, y with
  | .v (.int i), .v (.int j) => if mulOk i j then some (.v (.int (i * j)), m) else none
  | .v (.str a), .v (.int n) => if i63 n ∧ fits (a.length * n.toNat) then some (.v (.str (Txt.mul a n)), m) else none
  | x, .v (.int k) => (lstOf x m).bind fun a => if i63 k ∧ fits (a.length * k.toNat) then some (.o (.lst (List.replicate k.toNat a).flatten), m) else none
  | _, _ => none
theorem mulOk_of {a : Str} {n : Int} (h1 : -(2 ^ 63) ≤ n) (h2 : n < 2 ^ 63) (h3 : a.length * n.toNat ≤ sizeLine) : MulOk a n := by
  have hs : sizeLine = 16777216 := sizeLine_eq
  refine ⟨?_, fun h4 _ h5 => ?_, fun h4 _ => ?_⟩
  · have a1 : ¬ (n < -(2 ^ 63 : Int)) := by omega
    have a2 : ¬ (n ≥ 2 ^ 63) := by omega
    rw [decide_eq_false a1, decide_eq_false a2]; rfl
  · have h6 : (1 : Int) ≤ n := by omega
    have h7 : (a.length : Int) * n ≤ 16777216 := by
      have h := Int.ofNat_le.mpr (Nat.le_trans h3 (Nat.le_of_eq hs))
      rw [Int.natCast_mul, Int.toNat_of_nonneg (by omega)] at h
      exact h
    have h8 := Int.lt_ediv_add_one_mul_self (2 ^ 63 - 1) (b := n) (by omega)
    have h9 : ((2 ^ 63 - 1) / n + 1) * n ≤ (a.length : Int) * n := Int.mul_le_mul_of_nonneg_right (by omega) (by omega)
    omega
  · show decide (a.length * n.toNat > sizeLine) = false
    exact decide_eq_false (by omega)
def rMulU : R2 := fun x y H Q => ((rI CMul fun i j => .int (i * j)) x y H Q ∨ (∃ a n, x = .str a ∧ y = .int n ∧ MulOk a n ∧ Q (.str (Txt.mul a n)) H)) ∨ rRep x y H Q
theorem op_mulU {X : Cx} : OpR X (binaryOp .Mult) rMulU := (op_mul.or op_mul_str).or op_rep
theorem mulU {K : PySem.W.Frag} : R2S K rMulU mulF := by
  intro ι H H0 m x y z vx vy m' Q rm bd rx ry hf k
  unfold mulF at hf
  split at hf
  · split at hf
    · rename_i hj; cases hf; cases rx; cases ry
      exact .inl (.inl ⟨_, _, rfl, rfl, hj, k _ ι H (Le.refl _ _) rm (RV.int _)⟩)
    · cases hf
  · split at hf
    · rename_i hj; cases hf; cases rx; cases ry
      exact .inl (.inr ⟨_, _, rfl, rfl, mulOk_of hj.1.1 hj.1.2 hj.2, k _ ι H (Le.refl _ _) rm (RV.str _)⟩)
    · cases hf
  · obtain ⟨a, h1, hf⟩ := bind_some hf
    split at hf
    · rename_i hj; cases hf; cases ry
      obtain ⟨p1, v1, rfl, e1, r1⟩ := lst_at rm rx h1
      exact .inr ⟨_, _, _, rfl, rfl, e1, hj.1.1, hj.1.2, by rw [← r1.length]; exact hj.2, fun p hp => k _ ι _ (Le.newAt hp) (rm.newAt hp) (new_lst rm hp (r1.rep _))⟩
    · cases hf
  · cases hf
def negF (x : Out) (m : Mem) : Option (Out × Mem) := match x with
  | .v (.int i) => some (.v (.int (-i)), m)
  | _ => none
theorem negU {K : PySem.W.Frag} : R1S K (rU fun i => .int (-i)) negF := by
  intro ι H H0 m x z vx m' Q rm bd rx hf k
  unfold negF at hf
  split at hf
  · cases hf; cases rx
    exact ⟨_, rfl, k _ ι H (Le.refl _ _) rm (RV.int _)⟩
  · cases hf
/-! ### order of ints -/
def cmpF (p : Int → Int → Bool) (x : Out) (y : Out) (m : Mem) : Option (Out × Mem) := match x, y with
  | .v (.int i), .v (.int j) => some (.v (.bl (p i j)), m)
  | _, _ => none
theorem cmpU {K : PySem.W.Frag} {p : Int → Int → Bool} : R2S K (rI0 fun i j => .bl (p i j)) (cmpF p) := by
  intro ι H H0 m x y z vx vy m' Q rm bd rx ry hf k
  unfold cmpF at hf
  split at hf
  · cases hf; cases rx; cases ry
    exact ⟨_, _, rfl, rfl, k _ ι H (Le.refl _ _) rm (RV.bl _)⟩
  · cases hf
abbrev ltF : F2 := cmpF fun i j => decide (i < j)
abbrev leF : F2 := cmpF fun i j => decide (i ≤ j)
abbrev gtF : F2 := cmpF fun i j => decide (j < i)
abbrev geF : F2 := cmpF fun i j => decide (j ≤ i)

/-! ### == of data -/
mutual
def okD : Nat → D → Bool
  | _, .non => true
  | _, .bl _ => true
  | _, .int _ => true
  | _, .str s => PyData.strOk s
  | n, .tup xs => (match n with | 0 => false | n + 1 => okL n xs)
  | n, .fl xs => (match n with | 0 => false | n + 1 => okL n xs)
  | _, .par _ => false
  | _, .ref _ => false
  | _, .lam _ _ => false
def okL : Nat → List D → Bool
  | _, [] => true
  | n, d :: ds => okD n d && okL n ds
end
mutual
def D.eqb : D → D → Bool
  | .non, .non => true
  | .bl a, .bl b => decide (a = b)
  | .bl a, .int j => decide ((if a then 1 else 0) = j)
  | .int i, .bl b => decide (i = (if b then 1 else 0))
  | .int i, .int j => decide (i = j)
  | .str x, .str y => decide (x = y)
  | .fl xs, .fl ys => eqbL xs ys
  | .tup xs, .tup ys => eqbL xs ys
  | _, _ => false
def eqbL : List D → List D → Bool
  | [], [] => true
  | x :: xs, y :: ys => D.eqb x y && eqbL xs ys
  | _, _ => false
end
mutual
def D.pd : D → PyData
  | .non => .none
  | .bl b => .bool b
  | .int i => .int i
  | .str s => .str s
  | .tup xs => .tuple (pdL xs)
  | .fl xs => .list (pdL xs)
  | .par _ => .none
  | .ref _ => .none
  | .lam _ _ => .none
def pdL : List D → List PyData
  | [] => []
  | d :: ds => d.pd :: pdL ds
end
section
variable {K : PySem.W.Frag} {ι : List Addr} {H : Hp}
mutual
theorem RV.dp : ∀ {d : D} {v : V} {n : Nat}, RV K ι H d v → okD n d = true → Dp K H v d.pd
  | _, _, _, .non, _ => by rw [D.pd]; exact .non
  | _, _, _, .bl b, _ => by rw [D.pd]; exact .bl b
  | _, _, _, .int i, _ => by rw [D.pd]; exact .int i
  | _, _, _, .str s, _ => by rw [D.pd]; exact .str s
  | _, _, 0, .tup h r, e => by simp [okD] at e
  | _, _, n + 1, .tup h r, e => by rw [D.pd]; rw [okD] at e; exact .tup h.sq (RVs.dp r e)
  | _, _, 0, .fl h r, e => by simp [okD] at e
  | _, _, n + 1, .fl h r, e => by rw [D.pd]; rw [okD] at e; exact .lst h.sq (RVs.dp r e)
  | _, _, _, .par h r, e => by simp [okD] at e
  | _, _, _, .ref h, e => by simp [okD] at e
  | _, _, _, .lam h r, e => by simp [okD] at e
theorem RVs.dp : ∀ {ds : List D} {vs : List V} {n : Nat}, RVs K ι H ds vs → okL n ds = true → DpAll K H vs (pdL ds)
  | _, _, _, .nil, _ => by rw [pdL]; exact .nil
  | _, _, _, .cons h r, e => by
    rw [okL, Bool.and_eq_true] at e
    rw [pdL]
    exact .cons (RV.dp h e.1) (RVs.dp r e.2)
end
end
mutual
theorem pd_lay : ∀ (d : D) (n : Nat), okD n d = true → d.pd.canLay0 = true ∧ d.pd.depth ≤ n
  | .non, n, _ => by simp [D.pd, PyData.canLay0, PyData.depth]
  | .bl _, n, _ => by simp [D.pd, PyData.canLay0, PyData.depth]
  | .int _, n, _ => by simp [D.pd, PyData.canLay0, PyData.depth]
  | .str s, n, h => by simp only [okD] at h; simp [D.pd, PyData.canLay0, PyData.depth, h]
  | .tup xs, 0, h => by simp [okD] at h
  | .fl xs, 0, h => by simp [okD] at h
  | .tup xs, n + 1, h => by
    rw [okD] at h
    have q := pdL_lay xs n h
    simp only [D.pd, PyData.canLay0, PyData.depth]
    exact ⟨q.1, by omega⟩
  | .fl xs, n + 1, h => by
    rw [okD] at h
    have q := pdL_lay xs n h
    simp only [D.pd, PyData.canLay0, PyData.depth]
    exact ⟨q.1, by omega⟩
  | .par _, n, h => by simp [okD] at h
  | .ref _, n, h => by simp [okD] at h
  | .lam _ _, n, h => by simp [okD] at h
theorem pdL_lay : ∀ (ds : List D) (n : Nat), okL n ds = true → PyData.canLayAll0 (pdL ds) = true ∧ PyData.depthAll (pdL ds) ≤ n
  | [], n, _ => by simp [pdL, PyData.canLayAll0, PyData.depthAll]
  | d :: ds, n, h => by
    rw [okL, Bool.and_eq_true] at h
    have q1 := pd_lay d n h.1
    have q2 := pdL_lay ds n h.2
    simp only [pdL, PyData.canLayAll0, PyData.depthAll, q1.1, q2.1]
    exact ⟨rfl, by omega⟩
end
mutual
theorem pd_eqv : ∀ (a b : D) (n k : Nat), okD n a = true → okD k b = true → PyData.eqv a.pd b.pd = a.eqb b
  | .non, b, _, k, _, h => by cases b <;> first | (simp [okD] at h; done) | simp [D.pd, PyData.eqv, D.eqb]
  | .bl x, b, _, k, _, h => by cases b <;> first | (simp [okD] at h; done) | simp [D.pd, PyData.eqv, D.eqb, bdec]
  | .int x, b, _, k, _, h => by cases b <;> first | (simp [okD] at h; done) | simp [D.pd, PyData.eqv, D.eqb, bdec]
  | .str x, b, _, k, _, h => by cases b <;> first | (simp [okD] at h; done) | simp [D.pd, PyData.eqv, D.eqb, bdec]
  | .par _, b, _, k, h, _ => by simp [okD] at h
  | .ref _, b, _, k, h, _ => by simp [okD] at h
  | .lam _ _, b, _, k, h, _ => by simp [okD] at h
  | .tup xs, b, 0, k, h, _ => by simp [okD] at h
  | .fl xs, b, 0, k, h, _ => by simp [okD] at h
  | .tup xs, b, n + 1, k, h, h2 => by
    cases b with
    | tup ys =>
      cases k with
      | zero => simp [okD] at h2
      | succ k =>
        rw [okD] at h h2
        simp only [D.pd, PyData.eqv, D.eqb]
        exact pdL_eqv xs ys n k h h2
    | par _ => simp [okD] at h2
    | ref _ => simp [okD] at h2
    | lam _ _ => simp [okD] at h2
    | _ => simp [D.pd, PyData.eqv, D.eqb]
  | .fl xs, b, n + 1, k, h, h2 => by
    cases b with
    | fl ys =>
      cases k with
      | zero => simp [okD] at h2
      | succ k =>
        rw [okD] at h h2
        simp only [D.pd, PyData.eqv, D.eqb]
        exact pdL_eqv xs ys n k h h2
    | par _ => simp [okD] at h2
    | ref _ => simp [okD] at h2
    | lam _ _ => simp [okD] at h2
    | _ => simp [D.pd, PyData.eqv, D.eqb]
theorem pdL_eqv : ∀ (a b : List D) (n k : Nat), okL n a = true → okL k b = true → PyData.eqvAll (pdL a) (pdL b) = eqbL a b
  | [], [], _, _, _, _ => by simp [pdL, PyData.eqvAll, eqbL]
  | [], _ :: _, _, _, _, _ => by simp [pdL, PyData.eqvAll, eqbL]
  | _ :: _, [], _, _, _, _ => by simp [pdL, PyData.eqvAll, eqbL]
  | a :: as, b :: bs, n, k, h, h2 => by
    rw [okL, Bool.and_eq_true] at h h2
    simp only [pdL, PyData.eqvAll, eqbL, pd_eqv a b n k h.1 h2.1, pdL_eqv as bs n k h.2 h2.2]
end
theorem shaped_of {d : D} (h : okD 64 d = true) : SeqAt.shaped d.pd = true := by
  have q := pd_lay d 64 h
  unfold SeqAt.shaped
  rw [q.1, decide_eq_true q.2]
  rfl
/-- a thing as data: a list in the memory as what it holds -/
def form (x : Out) (m : Mem) : Option D := match x with
  | .v (.ref n) => (match m[n]? with | some (.lst a) => some (.fl a) | _ => none)
  | .o (.lst a) => some (.fl a)
  | .v d => some d
  | _ => none
theorem form_at {K : PySem.W.Frag} {ι : List Addr} {H H0 : Hp} {m : Mem} {x : Out} {v : V} {d : D} (rm : RM K ι H m) (ro : RO K H0 ι H x v) (h : form x m = some d) (ok : okD 64 d = true) : Dp K H v d.pd := by
  unfold form at h
  split at h
  · split at h
    · rename_i n _ ys hm
      cases h
      cases ro with
      | ref e =>
        obtain ⟨a, e1, vs, e2, r⟩ := rm.ob _ _ hm
        rw [e] at e1
        cases e1
        rw [okD] at ok
        rw [D.pd]
        exact .lst (.inl (.inl e2)) (r.dp ok)
    · cases h
  · cases h
    obtain ⟨p, e, _, _, vs, e2, r⟩ := ro
    subst e
    rw [okD] at ok
    rw [D.pd]
    exact .lst (.inl (.inl e2)) (r.dp ok)
  · cases h
    exact RV.dp ro ok
  · cases h
def eqF (x : Out) (y : Out) (m : Mem) : Option (Out × Mem) := (form x m).bind fun a => (form y m).bind fun b => if okD 64 a = true ∧ okD 64 b = true then some (.v (.bl (a.eqb b)), m) else none
def neF (x : Out) (y : Out) (m : Mem) : Option (Out × Mem) := (form x m).bind fun a => (form y m).bind fun b => if okD 64 a = true ∧ okD 64 b = true then some (.v (.bl (!a.eqb b)), m) else none
theorem eqU {K : PySem.W.Frag} : R2S K (rEqD K) eqF := by
  intro ι H H0 m x y z vx vy m' Q rm bd rx ry hf k
  obtain ⟨a, h1, hf⟩ := bind_some hf
  obtain ⟨b, h2, hf⟩ := bind_some hf
  split at hf
  · rename_i ok; cases hf
    exact ⟨_, _, form_at rm rx h1 ok.1, form_at rm ry h2 ok.2, shaped_of ok.1, shaped_of ok.2, by rw [pd_eqv a b 64 64 ok.1 ok.2]; exact k _ ι H (Le.refl _ _) rm (RV.bl _)⟩
  · cases hf
theorem neU {K : PySem.W.Frag} : R2S K (rNeD K) neF := by
  intro ι H H0 m x y z vx vy m' Q rm bd rx ry hf k
  obtain ⟨a, h1, hf⟩ := bind_some hf
  obtain ⟨b, h2, hf⟩ := bind_some hf
  split at hf
  · rename_i ok; cases hf
    exact ⟨_, _, form_at rm rx h1 ok.1, form_at rm ry h2 ok.2, shaped_of ok.1, shaped_of ok.2, by rw [pd_eqv a b 64 64 ok.1 ok.2]; exact k _ ι H (Le.refl _ _) rm (RV.bl _)⟩
  · cases hf
/-! ### is, is not: None, True, False -/
def isF (neg : Bool) (x : Out) (y : Out) (m : Mem) : Option (Out × Mem) := match y with
  | .v .non => (match x with
    | .v .non => some (.v (.bl (!neg)), m)
    | _ => some (.v (.bl neg), m))
  | .v (.bl b) => (match x with
    | .v (.bl a) => some (.v (.bl (if neg then !decide (a = b) else decide (a = b))), m)
    | _ => none)
  | _ => none
theorem op_isU {X : Cx} : OpR X (compareOp .Is) (fun x y H Q => (y = .non ∧ Q (.bl (decide (x = .non))) H) ∨ rIsB x y H Q) := op_isN.or op_isBl
theorem op_isNU {X : Cx} : OpR X (compareOp .IsNot) (fun x y H Q => (y = .non ∧ Q (.bl (!decide (x = .non))) H) ∨ rNotB x y H Q) := op_notN.or op_notBl
theorem ro_non {K : PySem.W.Frag} {ι : List Addr} {H H0 : Hp} {x : Out} {v : V} (ro : RO K H0 ι H x v) (h : x ≠ .v .non) : v ≠ .non := by
  intro e; subst e
  cases x with
  | v d => cases ro; exact h rfl
  | o b => obtain ⟨p, e, _⟩ := ro; cases e
theorem isU {K : PySem.W.Frag} : R2S K (fun x y H Q => (y = .non ∧ Q (.bl (decide (x = .non))) H) ∨ rIsB x y H Q) (isF false) := by
  intro ι H H0 m x y z vx vy m' Q rm bd rx ry hf k
  unfold isF at hf
  split at hf
  · cases ry
    split at hf
    · cases rx; cases hf
      exact .inl ⟨rfl, by simpa using k _ ι H (Le.refl _ _) rm (RV.bl _)⟩
    · rename_i hn; cases hf
      refine .inl ⟨rfl, ?_⟩
      rw [decide_eq_false (ro_non rx fun e => hn e)]
      exact k _ ι H (Le.refl _ _) rm (RV.bl _)
  · cases ry
    split at hf
    · cases rx; cases hf
      exact .inr ⟨_, _, rfl, rfl, k _ ι H (Le.refl _ _) rm (RV.bl _)⟩
    · cases hf
  · cases hf
theorem isNU {K : PySem.W.Frag} : R2S K (fun x y H Q => (y = .non ∧ Q (.bl (!decide (x = .non))) H) ∨ rNotB x y H Q) (isF true) := by
  intro ι H H0 m x y z vx vy m' Q rm bd rx ry hf k
  unfold isF at hf
  split at hf
  · cases ry
    split at hf
    · cases rx; cases hf
      exact .inl ⟨rfl, by simpa using k _ ι H (Le.refl _ _) rm (RV.bl _)⟩
    · rename_i hn; cases hf
      refine .inl ⟨rfl, ?_⟩
      rw [decide_eq_false (ro_non rx fun e => hn e)]
      exact k _ ι H (Le.refl _ _) rm (RV.bl _)
  · cases ry
    split at hf
    · cases rx; cases hf
      exact .inr ⟨_, _, rfl, rfl, k _ ι H (Le.refl _ _) rm (RV.bl _)⟩
    · cases hf
  · cases hf
@[simp] theorem add_int (i j : Int) (m : Mem) : addF (.v (.int i)) (.v (.int j)) m = some (.v (.int (i + j)), m) := rfl
@[simp] theorem sub_int (i j : Int) (m : Mem) : subF (.v (.int i)) (.v (.int j)) m = some (.v (.int (i - j)), m) := rfl
@[simp] theorem mod_int (i j : Int) (m : Mem) : modF (.v (.int i)) (.v (.int j)) m = if 0 < j then some (.v (.int (i % j)), m) else none := rfl
@[simp] theorem div_int (i j : Int) (m : Mem) : divF (.v (.int i)) (.v (.int j)) m = if divOk j then some (.v (.int (i / j)), m) else none := rfl
@[simp] theorem mul_int (i j : Int) (m : Mem) : mulF (.v (.int i)) (.v (.int j)) m = if mulOk i j then some (.v (.int (i * j)), m) else none := rfl
@[simp] theorem pow_30 (m : Mem) : powF (.v (.int 10)) (.v (.int 30)) m = some (.v (.int 1000000000000000000000000000000), m) := by
  simp only [powF]; rw [if_pos (show powOk _ _ from ⟨by decide, by decide, by decide⟩)]; rfl
@[simp] theorem pow_18 (m : Mem) : powF (.v (.int 10)) (.v (.int 18)) m = some (.v (.int 1000000000000000000), m) := by
  simp only [powF]; rw [if_pos (show powOk _ _ from ⟨by decide, by decide, by decide⟩)]; rfl
@[simp] theorem pow_20 (m : Mem) : powF (.v (.int 10)) (.v (.int 20)) m = some (.v (.int 100000000000000000000), m) := by
  simp only [powF]; rw [if_pos (show powOk _ _ from ⟨by decide, by decide, by decide⟩)]; rfl
@[simp] theorem neg_int (i : Int) (m : Mem) : negF (.v (.int i)) m = some (.v (.int (-i)), m) := rfl
@[simp] theorem cmp_int (p : Int → Int → Bool) (i j : Int) (m : Mem) : cmpF p (.v (.int i)) (.v (.int j)) m = some (.v (.bl (p i j)), m) := rfl
@[simp] theorem is_bl (n a b : Bool) (m : Mem) : isF n (.v (.bl a)) (.v (.bl b)) m = some (.v (.bl (if n then !decide (a = b) else decide (a = b))), m) := rfl
@[simp] theorem is_nn (n : Bool) (m : Mem) : isF n (.v .non) (.v .non) m = some (.v (.bl (!n)), m) := rfl
@[simp] theorem is_in (n : Bool) (i : Int) (m : Mem) : isF n (.v (.int i)) (.v .non) m = some (.v (.bl n), m) := rfl
@[simp] theorem is_tn (n : Bool) (i : List D) (m : Mem) : isF n (.v (.tup i)) (.v .non) m = some (.v (.bl n), m) := rfl
@[simp] theorem is_sn (n : Bool) (i : Str) (m : Mem) : isF n (.v (.str i)) (.v .non) m = some (.v (.bl n), m) := rfl
end Q
namespace Q
open PySem L2

theorem pe_or2 {X : Cx} {e : Expr} {t u : TE} (h : PE X e t) (h2 : PE X e u) : PE X e (fun σ H Q => t σ H Q ∨ u σ H Q) := ⟨fun pins s σ H Q I q => q.elim (h.run pins s σ H Q I) (h2.run pins s σ H Q I)⟩
theorem pi_or2 {X : Cx} {tg e : Expr} {t u : TI} (h : PI X tg e t) (h2 : PI X tg e u) : PI X tg e (fun σ H Q => t σ H Q ∨ u σ H Q) := ⟨fun pins s σ H Q I q => q.elim (h.run pins s σ H Q I) (h2.run pins s σ H Q I)⟩
theorem ps_or2 {X : Cx} {e : Stmt} {t u : TS} (h : PS X e t) (h2 : PS X e u) : PS X e (fun D σ H => t D σ H ∨ u D σ H) := ⟨fun pins s σ H D I q => q.elim (h.run pins s σ H D I) (h2.run pins s σ H D I)⟩

/-! ### items -/
noncomputable def ixF (x : Out) (y : Out) (m : Mem) : Option (Out × Mem) := match y with
  | .v (.int i) => (match x with
    | .v (.str z) => if fits z.length then (atI z.cps.toList i).map fun c => (.v (.str ⟨#[c]⟩), m) else none
    | x => (seqOf x m).bind fun xs => (atI xs i).map fun d => (.v d, m))
  | _ => none
theorem RVs.atI {K : PySem.W.Frag} {ι : List Addr} {H : Hp} {ds : List D} {vs : List V} {i : Int} {d : D} (r : RVs K ι H ds vs) (h : L2.atI ds i = some d) : ∃ v, L2.atI vs i = some v ∧ RV K ι H d v := by
  unfold L2.atI at h ⊢
  rw [← r.length]
  obtain ⟨j, e, h⟩ := bind_some h
  obtain ⟨v, e1, e2⟩ := r.get h
  exact ⟨v, by rw [e]; exact e1, e2⟩
theorem ixU {K : PySem.W.Frag} : R2S K (rIx K) ixF := by
  intro ι H H0 m x y z vx vy m' Q rm bd rx ry hf k
  unfold ixF at hf
  split at hf
  · cases ry
    split at hf
    · split at hf
      · rename_i hl
        obtain ⟨c, h1, h2⟩ := Option.map_eq_some_iff.mp hf
        cases h2; cases rx
        exact .inr (.inr ⟨_, _, c, rfl, rfl, hl, h1, k _ ι H (Le.refl _ _) rm (RV.str _)⟩)
      · cases hf
    · obtain ⟨xs, h1, hf⟩ := bind_some hf
      obtain ⟨d, h2, h3⟩ := Option.map_eq_some_iff.mp hf
      cases h3
      obtain ⟨a, vs, rfl, hs, r⟩ := seq_at rm rx h1
      obtain ⟨v, e1, e2⟩ := r.atI h2
      rcases hs with hs | hs
      · exact .inl ⟨_, _, _, _, rfl, rfl, hs, e1, k _ ι H (Le.refl _ _) rm e2⟩
      · exact .inr (.inl ⟨_, _, _, _, rfl, rfl, hs, e1, k _ ι H (Le.refl _ _) rm e2⟩)
  · cases hf
/-! ### slices -/
abbrev O := Env → Mem → Option (Option Int × Mem)
@[simp] def oNone (_ : Env) (m : Mem) : Option (Option Int × Mem) := some (none, m)
@[simp] def oSome (e : E) (ρ : Env) (m : Mem) : Option (Option Int × Mem) := (e ρ m).bind fun x => match x.1 with | .v (.int i) => some (some i, x.2) | _ => none
def tO (K : PySem.W.Frag) (f : O) : TO := fun σ H Q => ∃ ι ρ m r m', RS K ι H σ ρ ∧ RM K ι H m ∧ f ρ m = some (r, m') ∧ ∀ ι' H', Le ι H ι' H' → RM K ι' H' m' → Q r H'
theorem so_none {X : Cx} : PO X none (tO X.K oNone) := ⟨fun pins s σ H Q I h => by
  obtain ⟨ι, ρ, m, r, m', rs, rm, hf, k⟩ := h
  cases hf
  exact po_none.run pins s σ H Q I (k ι H (Le.refl _ _) rm)⟩
theorem so_some {X : Cx} {e : Expr} {fa : E} (h : SE X e fa) : PO X (some e) (tO X.K (oSome fa)) := ⟨fun pins s σ H Q I hh => by
  obtain ⟨ι, ρ, m, r, m', rs, rm, hf, k⟩ := hh
  obtain ⟨x, h1, hf⟩ := bind_some hf
  refine (po_some h).run pins s σ H Q I ⟨ι, ρ, m, x.1, x.2, rs, rm, h1, fun v ι1 H1 l1 rm1 ro1 bd1 => ?_⟩
  split at hf
  · rename_i e1; rw [e1] at ro1; cases ro1; cases hf
    exact ⟨_, rfl, k ι1 H1 l1 rm1⟩
  · cases hf⟩
def cutD (xs : List D) (lo hi : Option Int) : List D := (xs.drop (HT.sIx xs.length 0 lo)).take (HT.sIx xs.length xs.length hi - HT.sIx xs.length 0 lo)
theorem RVs.cut {K : PySem.W.Frag} {ι : List Addr} {H : Hp} {ds : List D} {vs : List V} {lo hi : Option Int} (r : RVs K ι H ds vs) : RVs K ι H (cutD ds lo hi) (cutV vs lo hi) := by
  unfold cutD cutV
  rw [r.length]
  exact (r.drop _).take _
noncomputable def slF (x : Out) (lo hi : Option Int) (m : Mem) : Option (Out × Mem) := match x with
  | .v (.str z) => if fits z.length then some (.v (.str (cutS z lo hi)), m) else none
  | .v (.tup xs) => some (.v (.tup (cutD xs lo hi)), m)
  | x => (seqOf x m).bind fun xs => some (.o (.lst (cutD xs lo hi)), m)
@[simp] noncomputable def eSl (a : E) (lo hi : O) (ρ : Env) (m : Mem) : Option (Out × Mem) := (a ρ m).bind fun x => (lo ρ x.2).bind fun l => (hi ρ l.2).bind fun h => slF x.1 l.1 h.1 h.2
theorem sq_cases {K : PySem.W.Frag} {ι : List Addr} {H H0 : Hp} {m : Mem} {x : Out} {v : V} {xs : List D} (rm : RM K ι H m) (ro : RO K H0 ι H x v) (h : seqOf x m = some xs) (hx : ∀ ys, x ≠ .v (.tup ys)) : ∃ a vs, v = .ref a ∧ SqL K H a vs ∧ RVs K ι H xs vs := by
  unfold seqOf at h
  split at h
  · rename_i ys; exact absurd rfl (hx ys)
  · cases h
    cases ro with
    | fl hs r => exact ⟨_, _, rfl, hs.sq, r⟩
  · split at h
    · rename_i n _ ys hm
      cases h
      cases ro with
      | ref e =>
        obtain ⟨a, e1, vs, e2, r⟩ := rm.ob _ _ hm
        rw [e] at e1
        cases e1
        exact ⟨_, vs, rfl, .inl (.inl e2), r⟩
    · cases h
  · cases h
    obtain ⟨p, e, _, _, vs, e2, r⟩ := ro
    exact ⟨p, vs, e, .inl (.inl e2), r⟩
  · cases h
theorem se_slice {X : Cx} {e : Expr} {a : Expr} {lo hi : Option Expr} {pos p2 : Pos} {fa : E} {fl fh : O} (ha : SE X a fa) (hl : PO X lo (tO X.K fl)) (hh : PO X hi (tO X.K fh))
    (h0 : PE X e (tSl (fun x lo hi H Q => (rSlL X.K x lo hi H Q ∨ rSlN X.K x lo hi H Q) ∨ rSlS x lo hi H Q) (tE X.K fa) (tO X.K fl) (tO X.K fh))) : SE X e (eSl fa fl fh) := pe_imp h0 fun σ H Q ⟨ι, ρ, m, z, m', rs, rm, hf, k⟩ => by
  obtain ⟨x, h1, hf⟩ := bind_some hf
  obtain ⟨l, h2, hf⟩ := bind_some hf
  obtain ⟨h, h3, hf⟩ := bind_some hf
  refine ⟨ι, ρ, m, x.1, x.2, rs, rm, h1, fun v ι1 H1 l1 rm1 ro1 bd1 => ?_⟩
  refine ⟨ι1, ρ, x.2, l.1, l.2, rs.mono l1, rm1, h2, fun ι2 H2 l2 rm2 => ?_⟩
  refine ⟨ι2, ρ, l.2, h.1, h.2, (rs.mono l1).mono l2, rm2, h3, fun ι3 H3 l3 rm3 => ?_⟩
  have l03 := l1.tr rm1 (l2.tr rm2 l3)
  have ro3 := (ro1.mono l2).mono l3
  unfold slF at hf
  split at hf
  · rename_i e1
    rw [e1] at ro3
    split at hf
    · rename_i hz; cases hf; cases ro3
      exact .inr ⟨_, rfl, hz, fun bd => k _ ι3 H3 l03 rm3 (RV.str _) bd⟩
    · cases hf
  · rename_i e1
    rw [e1] at ro3
    cases hf
    cases ro3 with
    | tup hs r =>
      refine .inl (.inr ⟨_, _, rfl, hs.sq, fun hw bd => ?_, fun _ p o hp ho bd => ?_⟩)
      · refine k _ ι3 H3 l03 rm3 (RV.tup hs ?_) bd
        have e2 := r.cut (lo := l.1) (hi := h.1)
        unfold cutV at e2
        rw [hw.1, hw.2, List.drop_zero, Nat.sub_zero, List.take_length] at e2
        exact e2
      · exact k _ ι3 _ (l03.tr rm3 (Le.newAt hp)) (rm3.newAt hp) (new_tup hp ho r.cut) bd
  · rename_i y hy1 hy2
    obtain ⟨xs, h4, hf⟩ := bind_some hf
    cases hf
    obtain ⟨a, vs, rfl, hs, r⟩ := sq_cases rm3 ro3 h4 hy2
    exact .inl (.inl ⟨_, _, rfl, hs, fun p hp bd => k _ ι3 _ (l03.tr rm3 (Le.newAt hp)) (rm3.newAt hp) ((new_lst rm3 hp r.cut).from l03 rm3) bd⟩)
/-! ### built-in functions of one and two things -/
section
variable {X : Cx} {e a b : Expr} {fa fb : E} {f : F1} {f2 : F2} {r : List V → Hp → VK → Prop}
theorem se_b1 (h0 : PE X e (tCB r (tCons (tE X.K fa) tNil))) (hr : R1S X.K (fun v H Q => r [v] H Q) f) : SE X e (eUn f fa) := pe_imp h0 fun σ H Q ⟨ι, ρ, m, z, m', rs, rm, hf, k⟩ => by
  obtain ⟨x, h1, hf⟩ := bind_some hf
  refine ⟨ι, ρ, m, x.1, x.2, rs, rm, h1, fun v ι1 H1 l1 rm1 ro1 bd1 => ?_⟩
  exact hr ι1 H1 H x.2 x.1 z v m' _ rm1 bd1 ro1 hf fun w ι3 H3 l3 rm3 ro3 bd3 => k w ι3 H3 (l1.tr rm1 l3) rm3 (ro3.from l1 rm1) bd3
theorem se_b2 (h0 : PE X e (tCB r (tCons (tE X.K fa) (tCons (tE X.K fb) tNil)))) (hr : R2S X.K (fun v u H Q => r [v, u] H Q) f2) : SE X e (eBin f2 fa fb) := pe_imp h0 fun σ H Q ⟨ι, ρ, m, z, m', rs, rm, hf, k⟩ => by
  obtain ⟨x, h1, hf⟩ := bind_some hf
  obtain ⟨y, h2, hf⟩ := bind_some hf
  refine ⟨ι, ρ, m, x.1, x.2, rs, rm, h1, fun v ι1 H1 l1 rm1 ro1 bd1 => ?_⟩
  refine ⟨ι1, ρ, x.2, y.1, y.2, rs.mono l1, rm1, h2, fun u ι2 H2 l2 rm2 ro2 bd2 => ?_⟩
  exact hr ι2 H2 H y.2 x.1 y.1 z v u m' _ rm2 bd2 (ro1.mono l2) (ro2.from l1 rm1) hf fun w ι3 H3 l3 rm3 ro3 bd3 => k w ι3 H3 (l1.tr rm1 (l2.tr rm2 l3)) rm3 (ro3.from (l1.tr rm1 l2) rm2) bd3
end
noncomputable def lenF (x : Out) (m : Mem) : Option (Out × Mem) := match x with
  | .v (.str z) => if fits z.length then some (.v (.int z.length), m) else none
  | x => (seqOf x m).bind fun xs => some (.v (.int xs.length), m)
def rLenU (K : PySem.W.Frag) : List V → Hp → VK → Prop := fun xs H Q => (∃ p ys, xs = [.ref p] ∧ (SqL K H p ys ∨ SqT K H p ys) ∧ Q (.int ys.length) H) ∨ (∃ z, xs = [.str z] ∧ z.length ≤ sizeLine ∧ Q (.int z.length) H)
theorem call_lenU {X : Cx} : CallR X (.builtin "len") (rLenU X.K) := call_len_seq.or call_len_str
theorem lenU {K : PySem.W.Frag} : R1S K (fun v H Q => rLenU K [v] H Q) lenF := by
  intro ι H H0 m x z vx m' Q rm bd rx hf k
  unfold lenF at hf
  split at hf
  · split at hf
    · rename_i hl; cases hf; cases rx
      exact .inr ⟨_, rfl, hl, k _ ι H (Le.refl _ _) rm (RV.int _)⟩
    · cases hf
  · obtain ⟨xs, h1, hf⟩ := bind_some hf
    cases hf
    obtain ⟨a, vs, rfl, hs, r⟩ := seq_at rm rx h1
    rw [r.length] at k
    exact .inl ⟨_, _, rfl, hs, k _ ι H (Le.refl _ _) rm (RV.int _)⟩
def absF (x : Out) (m : Mem) : Option (Out × Mem) := match x with
  | .v (.int i) => some (.v (.int (if i < 0 then -i else i)), m)
  | _ => none
theorem absU {K : PySem.W.Frag} : R1S K (fun v H Q => (fun xs H (Q : VK) => ∃ i, xs = [V.int i] ∧ Q (.int (if i < 0 then -i else i)) H) [v] H Q) absF := by
  intro ι H H0 m x z vx m' Q rm bd rx hf k
  unfold absF at hf
  split at hf
  · cases hf; cases rx
    exact ⟨_, rfl, k _ ι H (Le.refl _ _) rm (RV.int _)⟩
  · cases hf
def intF (x : Out) (m : Mem) : Option (Out × Mem) := match x with
  | .v (.int i) => some (.v (.int i), m)
  | .v (.bl b) => some (.v (.int (if b then 1 else 0)), m)
  | _ => none
theorem intU {K : PySem.W.Frag} : R1S K (fun v H Q => (fun xs H (Q : VK) => (∃ i, xs = [V.int i] ∧ Q (.int i) H) ∨ ∃ k, xs = [V.bl k] ∧ Q (.int (if k then 1 else 0)) H) [v] H Q) intF := by
  intro ι H H0 m x z vx m' Q rm bd rx hf k
  unfold intF at hf
  split at hf
  · cases hf; cases rx
    exact .inl ⟨_, rfl, k _ ι H (Le.refl _ _) rm (RV.int _)⟩
  · cases hf; cases rx
    exact .inr ⟨_, rfl, k _ ι H (Le.refl _ _) rm (RV.int _)⟩
  · cases hf
def listF (x : Out) (m : Mem) : Option (Out × Mem) := (seqOf x m).bind fun xs => some (.o (.lst xs), m)
theorem listU {K : PySem.W.Frag} : R1S K (fun v H Q => (fun xs H (Q : VK) => ∃ p ys, xs = [V.ref p] ∧ (SqL K H p ys ∨ SqT K H p ys) ∧ ∀ l, H l = none → Q (.ref l) (upd H l (.lst ys))) [v] H Q) listF := by
  intro ι H H0 m x z vx m' Q rm bd rx hf k
  obtain ⟨xs, h1, hf⟩ := bind_some hf
  cases hf
  obtain ⟨a, vs, rfl, hs, r⟩ := seq_at rm rx h1
  exact ⟨_, _, rfl, hs, fun p hp => k _ ι _ (Le.newAt hp) (rm.newAt hp) (new_lst rm hp r)⟩
def tupF (x : Out) (m : Mem) : Option (Out × Mem) := (seqOf x m).bind fun xs => some (.v (.tup xs), m)
theorem tupU {K : PySem.W.Frag} : R1S K (fun v H Q => (fun xs H (Q : VK) => ∃ p ys, xs = [V.ref p] ∧ ((SqL K H p ys ∧ TpN H ys Q) ∨ (SqT K H p ys ∧ Q (.ref p) H))) [v] H Q) tupF := by
  intro ι H H0 m x z vx m' Q rm bd rx hf k
  obtain ⟨xs, h1, hf⟩ := bind_some hf
  cases hf
  rcases seq_at2 rm rx h1 with ⟨a, vs, rfl, hs, r⟩ | ⟨a, vs, rfl, hs, r⟩
  · exact ⟨_, _, rfl, .inl ⟨hs, fun p o hp ho => k _ ι _ (Le.newAt hp) (rm.newAt hp) (new_tup hp ho r)⟩⟩
  · exact ⟨_, _, rfl, .inr ⟨hs.sq, k _ ι H (Le.refl _ _) rm (RV.tup hs r)⟩⟩
/-- a list of truths -/
def blsOf : List D → Option (List Bool)
  | [] => some []
  | .bl b :: r => (blsOf r).map (b :: ·)
  | _ => none
theorem blsOf_eq : ∀ {xs : List D} {bs : List Bool}, blsOf xs = some bs → xs = bs.map D.bl
  | [], bs, h => by cases h; rfl
  | d :: r, bs, h => by
    cases d with
    | bl b =>
      rw [blsOf] at h
      obtain ⟨cs, h1, h2⟩ := Option.map_eq_some_iff.mp h
      rw [← h2, blsOf_eq h1]; rfl
    | _ => simp [blsOf] at h
theorem blsOf_map (bs : List Bool) : blsOf (bs.map D.bl) = some bs := by
  induction bs with
  | nil => rfl
  | cons b r ih => simp [blsOf, ih]
def allF (x : Out) (m : Mem) : Option (Out × Mem) := (lstOf x m).bind fun xs => (blsOf xs).bind fun bs => some (.v (.bl (bs.all id)), m)
def anyF (x : Out) (m : Mem) : Option (Out × Mem) := (lstOf x m).bind fun xs => (blsOf xs).bind fun bs => some (.v (.bl (bs.any id)), m)
theorem allU {K : PySem.W.Frag} : R1S K (fun v H Q => rAll K [v] H Q) allF := by
  intro ι H H0 m x z vx m' Q rm bd rx hf k
  obtain ⟨xs, h1, hf⟩ := bind_some hf
  obtain ⟨bs, h2, hf⟩ := bind_some hf
  cases hf
  obtain ⟨a, vs, rfl, hs, r⟩ := lst_at rm rx h1
  rw [blsOf_eq h2] at r
  rw [r.of_bls] at hs
  exact ⟨_, bs, rfl, .inl (.inl hs), k _ ι H (Le.refl _ _) rm (RV.bl _)⟩
theorem anyU {K : PySem.W.Frag} : R1S K (fun v H Q => rAny K [v] H Q) anyF := by
  intro ι H H0 m x z vx m' Q rm bd rx hf k
  obtain ⟨xs, h1, hf⟩ := bind_some hf
  obtain ⟨bs, h2, hf⟩ := bind_some hf
  cases hf
  obtain ⟨a, vs, rfl, hs, r⟩ := lst_at rm rx h1
  rw [blsOf_eq h2] at r
  rw [r.of_bls] at hs
  exact ⟨_, bs, rfl, .inl (.inl hs), k _ ι H (Le.refl _ _) rm (RV.bl _)⟩
/-! ### isinstance -/
inductive Ty where
  | int | bool | tuple | str | list | dict
def Ty.nm : Ty → String
  | .int => "int" | .bool => "bool" | .tuple => "tuple" | .str => "str" | .list => "list" | .dict => "dict"
/-- the type's name of a thing -/
def tyOf (x : Out) (m : Mem) : Option String := match x with
  | .v .non => some "NoneType"
  | .v (.bl _) => some "bool"
  | .v (.int _) => some "int"
  | .v (.str _) => some "str"
  | .v (.tup _) => some "tuple"
  | .v (.par _) => none
  | .v (.fl _) => some "list"
  | .v (.ref n) => (match m[n]? with | some (.lst _) => some "list" | some (.dct _) => some "dict" | _ => none)
  | .o (.lst _) => some "list"
  | .o (.dct _) => some "dict"
  | .o (.dcr _) => none
  | .o (.tab _) => none
  | .v (.lam _ _) => none
def isiB : Ty → String → Bool
  | .int, "int" => true
  | .int, "bool" => true
  | .bool, "bool" => true
  | .tuple, "tuple" => true
  | .str, "str" => true
  | .list, "list" => true
  | .dict, "dict" => true
  | _, _ => false
def isiF (t : Ty) (x : Out) (m : Mem) : Option (Out × Mem) := (tyOf x m).bind fun s => some (.v (.bl (isiB t s)), m)
theorem tyOf_at {K : PySem.W.Frag} {ι : List Addr} {H H0 : Hp} {m : Mem} {x : Out} {v : V} {s : String} (rm : RM K ι H m) (ro : RO K H0 ι H x v) (h : tyOf x m = some s) : TyX K H v (.type s) ∧ (s = "NoneType" ∨ s = "bool" ∨ s = "int" ∨ s = "str" ∨ s = "tuple" ∨ s = "list" ∨ s = "dict") := by
  have tupT : ∀ {a : Addr} {vs : List V}, SqT K H a vs → TyX K H (.ref a) (.type "tuple") := fun {a vs} h => by
    rcases h with (h | ⟨o, h⟩) | ⟨o, its, n, h1, h2, _⟩
    · exact .base (.tup h)
    · exact .fTuple h
    · exact .kTuple h1 h2
  have flT : ∀ {a : Addr} {vs : List V}, FlAt K H a vs → TyX K H (.ref a) (.type "list") := fun {a vs} h => by
    rcases h with ⟨o, h⟩ | ⟨o, its, n, h1, h2, _⟩
    · exact .base (.frz h)
    · exact .kList h1 h2
  have rbL : ∀ {xs : List D} {a : Addr}, RB K ι H (.lst xs) a → TyX K H (.ref a) (.type "list") := fun {b a} h => by
    obtain ⟨vs, e, _⟩ := h; exact .base (.lst e)
  have rbT : ∀ {xs : List (D × D)} {a : Addr}, RB K ι H (.dct xs) a → TyX K H (.ref a) (.type "dict") := fun {b a} h => by
    obtain ⟨vs, e, _⟩ := h; exact .base (.dK e)
  unfold tyOf at h
  split at h
  · cases h; cases ro; exact ⟨.base .non, by simp⟩
  · cases h; cases ro; exact ⟨.base (.bl _), by simp⟩
  · cases h; cases ro; exact ⟨.base (.int _), by simp⟩
  · cases h; cases ro; exact ⟨.base (.str _), by simp⟩
  · cases h
    cases ro with
    | tup hs r => exact ⟨tupT hs.sq, by simp⟩
  · cases h
  · cases h
    cases ro with
    | fl hs r => exact ⟨flT hs, by simp⟩
  · cases ro with
    | ref e =>
      split at h
      · rename_i hm; cases h
        obtain ⟨a, e1, rb⟩ := rm.ob _ _ hm
        rw [e] at e1; cases e1
        exact ⟨rbL rb, by simp⟩
      · rename_i hm; cases h
        obtain ⟨a, e1, rb⟩ := rm.ob _ _ hm
        rw [e] at e1; cases e1
        exact ⟨rbT rb, by simp⟩
      · cases h
  · cases h
    obtain ⟨p, e, _, _, rb⟩ := ro
    subst e
    exact ⟨rbL rb, by simp⟩
  · cases h
    obtain ⟨p, e, _, _, rb⟩ := ro
    subst e
    exact ⟨rbT rb, by simp⟩
  · cases h
  · cases h
  · cases h
theorem kit_all (K : PySem.W.Frag) (t : Ty) {s : String} (h : s = "NoneType" ∨ s = "bool" ∨ s = "int" ∨ s = "str" ∨ s = "tuple" ∨ s = "list" ∨ s = "dict") : PySem.W.kitOne K (.type s) (.type t.nm) = some (isiB t s) := by
  rcases h with h | h | h | h | h | h | h <;> subst h <;> cases t <;> exact kit_ty (by decide +kernel)
theorem se_isi {X : Cx} {e : Expr} {fa : E} {t : Ty} (h0 : PE X e (tCB (rIsi X.K) (tCons (tE X.K fa) (tCons (tC (.ty t.nm)) tNil)))) : SE X e (eUn (isiF t) fa) := pe_imp h0 fun σ H Q ⟨ι, ρ, m, z, m', rs, rm, hf, k⟩ => by
  obtain ⟨x, h1, hf⟩ := bind_some hf
  obtain ⟨s, h2, hf⟩ := bind_some hf
  cases hf
  refine ⟨ι, ρ, m, x.1, x.2, rs, rm, h1, fun v ι1 H1 l1 rm1 ro1 bd1 => ?_⟩
  obtain ⟨ty, hs⟩ := tyOf_at rm1 ro1 h2
  exact ⟨v, .ty t.nm, _, _, _, rfl, .ty _, ty, kit_all X.K t hs, fun bd => k _ ι1 H1 l1 rm1 (RV.bl _) bd⟩
@[simp] theorem abs_int (i : Int) (m : Mem) : absF (.v (.int i)) m = some (.v (.int (if i < 0 then -i else i)), m) := rfl
@[simp] theorem int_int (i : Int) (m : Mem) : intF (.v (.int i)) m = some (.v (.int i), m) := rfl
@[simp] theorem int_bl (b : Bool) (m : Mem) : intF (.v (.bl b)) m = some (.v (.int (if b then 1 else 0)), m) := rfl
end Q
namespace Q
open PySem L2

/-! ### what is walked -/
def signs (z : Str) : List D := z.cps.toList.map fun c => D.str ⟨#[c]⟩
noncomputable def srcOf (x : Out) (m : Mem) : Option Src := match x with
  | .v (.str z) => if fits z.length then some ⟨signs z, []⟩ else none
  | .v (.tup a) => some ⟨a, []⟩
  | .v (.fl a) => some ⟨a, []⟩
  | .v (.ref n) => (match m[n]? with | some (.lst a) => some ⟨a, [(n, .lst a)]⟩ | _ => none)
  | .o (.lst a) => some ⟨a, []⟩
  | _ => none
@[simp] noncomputable def iE (a : E) (ρ : Env) (m : Mem) : Option (Src × Mem) := (a ρ m).bind fun x => (srcOf x.1 x.2).bind fun s => some (s, x.2)
def upto (lo : Int) (n : Nat) : List D := (List.range n).map fun (i : Nat) => D.int (lo + (i : Int))
def rgOk (j : Int) : Prop := j ≤ 16777216 ∧ -(2 ^ 62) ≤ j
noncomputable instance (j : Int) : Decidable (rgOk j) := Classical.propDecidable _
@[simp] theorem rgOk_of {j : Int} (h : -1000000000 ≤ j) (h2 : j ≤ 16777216) : rgOk j := ⟨h2, by omega⟩
@[simp] noncomputable def iRg1 (a : E) (ρ : Env) (m : Mem) : Option (Src × Mem) := (a ρ m).bind fun x => match x.1 with
  | .v (.int j) => if rgOk j then some (⟨upto 0 j.toNat, []⟩, x.2) else none
  | _ => none
def rg2Ok (i j : Int) : Prop := j - i ≤ 16777216 ∧ -(2 ^ 62) ≤ i ∧ i < 2 ^ 62 ∧ -(2 ^ 62) ≤ j ∧ j < 2 ^ 62
noncomputable instance (i j : Int) : Decidable (rg2Ok i j) := Classical.propDecidable _
@[simp] theorem rg2Ok_of {i j : Int} (h : -1000000 ≤ i) (h1 : i ≤ 1000000) (h2 : -1000000 ≤ j) (h3 : j ≤ 1000000) : rg2Ok i j := ⟨by omega, by omega, by omega, by omega, by omega⟩
@[simp] noncomputable def iRg2 (a b : E) (ρ : Env) (m : Mem) : Option (Src × Mem) := (a ρ m).bind fun x => (b ρ x.2).bind fun y => match x.1, y.1 with
  | .v (.int i), .v (.int j) => if rg2Ok i j then some (⟨upto i (j - i).toNat, []⟩, y.2) else none
  | _, _ => none
section
variable {K : PySem.W.Frag} {ι : List Addr} {H : Hp} {m : Mem}
theorem upto_get {lo : Int} {n i : Nat} {d : D} (h : (upto lo n)[i]? = some d) : i < n ∧ d = .int (lo + i) := by
  unfold upto at h
  rw [List.getElem?_map] at h
  cases q : (List.range n)[i]? with
  | none => rw [q] at h; cases h
  | some j =>
    rw [q] at h
    have e := List.getElem?_eq_some_iff.mp q
    have h1 := e.1
    have h2 := e.2
    rw [List.getElem_range] at h2
    rw [List.length_range] at h1
    subst h2
    cases h
    exact ⟨h1, rfl⟩
theorem upto_len (lo : Int) (n : Nat) : (upto lo n).length = n := by simp [upto]
theorem walks_range (lo : Int) (n : Nat) : Walks K (Itr lo n) ⟨upto lo n, []⟩ ι H := by
  intro ι2 H2 m2 i l rm hc
  refine ⟨fun h => by rw [upto_len] at h; exact h, fun d hd => ?_⟩
  obtain ⟨h1, rfl⟩ := upto_get hd
  refine ⟨h1, fun x H3 hy => ?_⟩
  obtain ⟨rfl, rfl⟩ := hy
  exact ⟨Le.refl _ _, rm, .int _⟩
theorem walks_str (z : Str) : Walks K (Its z) ⟨signs z, []⟩ ι H := by
  intro ι2 H2 m2 i l rm hc
  refine ⟨fun h => by
    show z.cps.size ≤ i
    simpa [signs] using h, fun d hd => ?_⟩
  unfold signs at hd
  rw [List.getElem?_map] at hd
  cases q : z.cps.toList[i]? with
  | none => rw [q] at hd; cases hd
  | some c =>
    rw [q] at hd
    cases hd
    have hq : z.cps[i]? = some c := by rw [← Array.getElem?_toList]; exact q
    refine ⟨(Array.getElem?_eq_some_iff.mp hq).1, fun x H3 hy => ?_⟩
    obtain ⟨rfl, c', e1, rfl⟩ := hy
    rw [hq] at e1
    cases e1
    exact ⟨Le.refl _ _, rm, .str _⟩
/-- a list at a, known to hold vs wherever the lists stand -/
theorem walks_list {a : Addr} {ds : List D} {lv : List (Nat × Ob)} (h : ∀ ι2 H2 m2, Le ι H ι2 H2 → RM K ι2 H2 m2 → chk lv m2 → ∃ vs, SqL K H2 a vs ∧ RVs K ι2 H2 ds vs) : Walks K (Itl K a) ⟨ds, lv⟩ ι H := by
  intro ι2 H2 m2 i l rm hc
  obtain ⟨vs, hs, r⟩ := h ι2 H2 m2 l rm hc
  refine ⟨fun hl => ⟨vs, hs, by rw [← r.length]; exact hl⟩, fun d hd => ?_⟩
  obtain ⟨v, e1, e2⟩ := r.get hd
  refine ⟨⟨vs, v, hs, e1⟩, fun x H3 hy => ?_⟩
  obtain ⟨rfl, hy⟩ := hy
  have := hy vs hs
  rw [e1] at this
  cases this
  exact ⟨Le.refl _ _, rm, e2⟩
theorem walks_tuple {a : Addr} {vs : List V} {ds : List D} (hs : TpAt K H a vs) (r : RVs K ι H ds vs) : Walks K (Itt K a) ⟨ds, []⟩ ι H := by
  intro ι2 H2 m2 i l rm hc
  have hs2 := (l.k.rdT hs).sq
  have r2 := r.mono l
  refine ⟨fun hl => ⟨vs, hs2, by rw [← r.length]; exact hl⟩, fun d hd => ?_⟩
  obtain ⟨v, e1, e2⟩ := r2.get hd
  refine ⟨⟨vs, v, hs2, e1⟩, fun x H3 hy => ?_⟩
  obtain ⟨rfl, hy⟩ := hy
  have := hy vs hs2
  rw [e1] at this
  cases this
  exact ⟨Le.refl _ _, rm, e2⟩
end
theorem si_e {X : Cx} {tg e : Expr} {fa : E} (h : SE X e fa) : SI X tg e (iE fa) := pi_imp (pi_or2 (pi_or2 (pi_list h) (pi_tup h)) (pi_str h)) fun σ H R ⟨ι, ρ, m, s, m', rs, rm, hf, k⟩ => by
  obtain ⟨x, h1, hf⟩ := bind_some hf
  obtain ⟨s', h2, hf⟩ := bind_some hf
  cases hf
  unfold srcOf at h2
  have base : ∀ {T : TE} {P : V → Hp → Prop}, (∀ v ι1 H1, Le ι H ι1 H1 → RM X.K ι1 H1 x.2 → RO X.K H ι1 H1 x.1 v → Bnd X.K H1 → P v H1) → tE X.K fa σ H P := fun {T P} hP => ⟨ι, ρ, m, x.1, x.2, rs, rm, h1, hP⟩
  split at h2
  · rename_i e1
    split at h2
    · rename_i hz; cases h2
      refine .inr (base (T := tE X.K fa) fun v ι1 H1 l1 rm1 ro1 bd1 => ?_)
      rw [e1] at ro1; cases ro1
      exact ⟨_, rfl, fun bd => k _ ι1 H1 l1 rm1 (walks_str _) bd (by show (signs _).length ≤ _; unfold signs; rw [List.length_map, Array.length_toList]; exact hz)⟩
    · cases h2
  · rename_i e1; cases h2
    refine .inl (.inr (base (T := tE X.K fa) fun v ι1 H1 l1 rm1 ro1 bd1 => ?_))
    rw [e1] at ro1
    cases ro1 with
    | tup hs r => exact ⟨_, rfl, ⟨_, hs.sq⟩, fun bd => k _ ι1 H1 l1 rm1 (walks_tuple hs r) bd (by rw [show (_ : Src).items = _ from rfl, r.length]; exact bd _ _ (.inr hs.sq))⟩
  · rename_i e1; cases h2
    refine .inl (.inl (base (T := tE X.K fa) fun v ι1 H1 l1 rm1 ro1 bd1 => ?_))
    rw [e1] at ro1
    cases ro1 with
    | fl hs r => exact ⟨_, rfl, ⟨_, hs.sq⟩, fun bd => k _ ι1 H1 l1 rm1 (walks_list fun ι2 H2 m2 l2 rm2 _ => ⟨_, (l2.k.rdF hs).sq, r.mono l2⟩) bd (by rw [show (_ : Src).items = _ from rfl, r.length]; exact bd _ _ (.inl hs.sq))⟩
  · rename_i n e1
    split at h2
    · rename_i xs hm; cases h2
      refine .inl (.inl (base (T := tE X.K fa) fun v ι1 H1 l1 rm1 ro1 bd1 => ?_))
      rw [e1] at ro1
      cases ro1 with
      | ref e2 =>
        obtain ⟨a, e3, vs, e4, r⟩ := rm1.ob _ _ hm
        rw [e2] at e3; cases e3
        refine ⟨_, rfl, ⟨_, .inl (.inl e4)⟩, fun bd => k _ ι1 H1 l1 rm1 (walks_list fun ι2 H2 m2 l2 rm2 hc => ?_) bd (by rw [show (_ : Src).items = _ from rfl, r.length]; exact bd _ _ (.inl (.inl (.inl e4))))⟩
        have hm2 : m2[n]? = some (.lst xs) := hc (n, .lst xs) (by simp)
        obtain ⟨a', e5, vs', e6, r'⟩ := rm2.ob _ _ hm2
        rw [l2.ix e2] at e5; cases e5
        exact ⟨vs', .inl (.inl e6), r'⟩
    · cases h2
  · rename_i e1; cases h2
    refine .inl (.inl (base (T := tE X.K fa) fun v ι1 H1 l1 rm1 ro1 bd1 => ?_))
    rw [e1] at ro1
    obtain ⟨p, e2, e3, hi, vs, e4, r⟩ := ro1
    subst e2
    exact ⟨_, rfl, ⟨_, .inl (.inl e4)⟩, fun bd => k _ ι1 H1 l1 rm1 (walks_list fun ι2 H2 m2 l2 rm2 _ => ⟨_, .inl (.inl (l2.keep _ _ e4 (.inr hi))), r.mono l2⟩) bd (by rw [show (_ : Src).items = _ from rfl, r.length]; exact bd _ _ (.inl (.inl (.inl e4))))⟩
  · cases h2
theorem si_rg1 {X : Cx} {tg e : Expr} {fa : E} (h : PI X tg e (iRng1 (tCons (tE X.K fa) tNil))) : SI X tg e (iRg1 fa) := pi_imp h fun σ H R ⟨ι, ρ, m, s, m', rs, rm, hf, k⟩ => by
  obtain ⟨x, h1, hf⟩ := bind_some hf
  refine ⟨ι, ρ, m, x.1, x.2, rs, rm, h1, fun v ι1 H1 l1 rm1 ro1 bd1 => ?_⟩
  split at hf
  · rename_i j e1
    split at hf
    · rename_i hj; cases hf
      rw [e1] at ro1; cases ro1
      have hs : sizeLine = 16777216 := sizeLine_eq
      have hj1 := hj.1
      exact ⟨_, rfl, hj.2, by omega, fun bd => k _ ι1 H1 l1 rm1 (walks_range 0 _) bd (by show (upto 0 j.toNat).length ≤ _; rw [upto_len]; omega)⟩
    · cases hf
  · cases hf
theorem si_rg2 {X : Cx} {tg e : Expr} {fa fb : E} (h : PI X tg e (iRng2 (tCons (tE X.K fa) (tCons (tE X.K fb) tNil)))) : SI X tg e (iRg2 fa fb) := pi_imp h fun σ H R ⟨ι, ρ, m, s, m', rs, rm, hf, k⟩ => by
  obtain ⟨x, h1, hf⟩ := bind_some hf
  obtain ⟨y, h2, hf⟩ := bind_some hf
  refine ⟨ι, ρ, m, x.1, x.2, rs, rm, h1, fun v ι1 H1 l1 rm1 ro1 bd1 => ?_⟩
  refine ⟨ι1, ρ, x.2, y.1, y.2, rs.mono l1, rm1, h2, fun u ι2 H2 l2 rm2 ro2 bd2 => ?_⟩
  split at hf
  · rename_i i j e1 e2
    split at hf
    · rename_i hj; cases hf
      rw [e1] at ro1; cases ro1
      rw [e2] at ro2; cases ro2
      have hs : sizeLine = 16777216 := sizeLine_eq
      have hj1 := hj.1
      exact ⟨_, _, rfl, hj.2, fun bd => k _ ι2 H2 (l1.tr rm1 l2) rm2 (walks_range i _) bd (by show (upto i (j - i).toNat).length ≤ _; rw [upto_len]; omega)⟩
    · cases hf
  · cases hf
/-! ### methods of built-in types -/
def isTyB (T : String) (x : Out) (m : Mem) : Bool := match x with
  | .v (.str _) => T == "str"
  | .v (.fl _) => T == "list"
  | .v (.ref n) => (match m[n]? with | some (.lst _) => T == "list" | some (.dct _) => T == "dict" | _ => false)
  | .o (.lst _) => T == "list"
  | .o (.dct _) => T == "dict"
  | _ => false
@[simp] def eMt1 (T : String) (f : F2) (a b : E) (ρ : Env) (m : Mem) : Option (Out × Mem) := (a ρ m).bind fun x => if isTyB T x.1 x.2 = true then (b ρ x.2).bind fun y => f x.1 y.1 y.2 else none
@[simp] def eMt0 (T : String) (f : F1) (a : E) (ρ : Env) (m : Mem) : Option (Out × Mem) := (a ρ m).bind fun x => if isTyB T x.1 x.2 = true then f x.1 x.2 else none
theorem tyV_of {K : PySem.W.Frag} {ι : List Addr} {H H0 : Hp} {m : Mem} {x : Out} {v : V} {T : String} (rm : RM K ι H m) (ro : RO K H0 ι H x v) (h : isTyB T x m = true) : tyV K T v H := by
  have rbL : ∀ {xs : List D} {a : Addr}, RB K ι H (.lst xs) a → (T == "list") = true → tyV K T (.ref a) H := fun {b a} h ht => by
    obtain ⟨vs, e, _⟩ := h; exact .inl ⟨by simpa using ht, vs, .inl (.inl e)⟩
  have rbT : ∀ {xs : List (D × D)} {a : Addr}, RB K ι H (.dct xs) a → (T == "dict") = true → tyV K T (.ref a) H := fun {b a} h ht => by
    obtain ⟨vs, e, _⟩ := h; exact .inr (.inr (.inl ⟨by simpa using ht, .inl ⟨_, e⟩⟩))
  unfold isTyB at h
  split at h
  · cases ro; show T = "str"; simpa using h
  · cases ro with
    | fl hs r => exact .inl ⟨by simpa using h, _, hs.sq⟩
  · cases ro with
    | ref e =>
      split at h
      · rename_i hm
        obtain ⟨a, e1, rb⟩ := rm.ob _ _ hm
        rw [e] at e1; cases e1
        exact rbL rb h
      · rename_i hm
        obtain ⟨a, e1, rb⟩ := rm.ob _ _ hm
        rw [e] at e1; cases e1
        exact rbT rb h
      · cases h
  · obtain ⟨p, e, _, _, rb⟩ := ro
    subst e
    exact rbL rb h
  · obtain ⟨p, e, _, _, rb⟩ := ro
    subst e
    exact rbT rb h
  · cases h
/-- rules that may give a place to what is new: seen from the start -/
def R2N (K : PySem.W.Frag) (r : R2) (f : F2) : Prop := ∀ (ι0 : List Addr) (H0 : Hp) (ι : List Addr) (H : Hp) (m : Mem) (x y z : Out) (vx vy : V) (m' : Mem) (Q : VK), Le ι0 H0 ι H → RM K ι H m → Bnd K H → RO K H0 ι H x vx → RO K H0 ι H y vy → f x y m = some (z, m') →
  (∀ v ι' H', Le ι0 H0 ι' H' → RM K ι' H' m' → RO K H0 ι' H' z v → Q v H') → r vx vy H Q
theorem R2S.n {K : PySem.W.Frag} {r : R2} {f : F2} (h : R2S K r f) : R2N K r f := fun ι0 H0 ι H m x y z vx vy m' Q l rm bd rx ry hf k => h ι H H0 m x y z vx vy m' Q rm bd rx ry hf fun v ι' H' l' rm' ro' => k v ι' H' (l.tr rm l') rm' (ro'.from l rm)
section
variable {X : Cx} {e : Expr} {fa fb : E} {T : String} {f : F1} {f2 : F2} {r : V → List V → Hp → VK → Prop}
theorem se_mt1 (h0 : PE X e (tBM X.K T r (tE X.K fa) (tCons (tE X.K fb) tNil))) (hr : R2N X.K (fun v u H Q => r v [u] H Q) f2) : SE X e (eMt1 T f2 fa fb) := pe_imp h0 fun σ H Q ⟨ι, ρ, m, z, m', rs, rm, hf, k⟩ => by
  obtain ⟨x, h1, hf⟩ := bind_some hf
  split at hf
  · rename_i ht
    obtain ⟨y, h2, hf⟩ := bind_some hf
    refine ⟨ι, ρ, m, x.1, x.2, rs, rm, h1, fun v ι1 H1 l1 rm1 ro1 bd1 => ⟨tyV_of rm1 ro1 ht, ?_⟩⟩
    refine ⟨ι1, ρ, x.2, y.1, y.2, rs.mono l1, rm1, h2, fun u ι2 H2 l2 rm2 ro2 bd2 => ?_⟩
    exact hr ι H ι2 H2 y.2 x.1 y.1 z v u m' _ (l1.tr rm1 l2) rm2 bd2 (ro1.mono l2) (ro2.from l1 rm1) hf fun w ι3 H3 l3 rm3 ro3 bd3 => k w ι3 H3 l3 rm3 ro3 bd3
  · cases hf
theorem se_mt0 (h0 : PE X e (tBM0 X.K T r (tE X.K fa))) (hr : R1S X.K (fun v H Q => r v [] H Q) f) : SE X e (eMt0 T f fa) := pe_imp h0 fun σ H Q ⟨ι, ρ, m, z, m', rs, rm, hf, k⟩ => by
  obtain ⟨x, h1, hf⟩ := bind_some hf
  split at hf
  · rename_i ht
    refine ⟨ι, ρ, m, x.1, x.2, rs, rm, h1, fun v ι1 H1 l1 rm1 ro1 bd1 => ⟨tyV_of rm1 ro1 ht, ?_⟩⟩
    exact hr ι1 H1 H x.2 x.1 z v m' _ rm1 bd1 ro1 hf fun w ι3 H3 l3 rm3 ro3 bd3 => k w ι3 H3 (l1.tr rm1 l3) rm3 (ro3.from l1 rm1) bd3
  · cases hf
end
/-- xs.append(y) -/
noncomputable def appF (x : Out) (y : Out) (m : Mem) : Option (Out × Mem) := match x with
  | .v (.ref n) => (match m[n]? with
    | some (.lst xs) => if fits (xs.length + 1) then some (.v .non, (val y m).2.set n (.lst (xs ++ [(val y m).1]))) else none
    | _ => none)
  | _ => none
theorem mem_val {y : Out} {m : Mem} {n : Nat} {b : Ob} (h : m[n]? = some b) : (val y m).2[n]? = some b := by
  cases y with
  | v d => exact h
  | o c => show (m ++ [c])[n]? = some b; rw [List.getElem?_append_left (List.getElem?_eq_some_iff.mp h).1]; exact h
theorem RS.nil (K : PySem.W.Frag) (ι : List Addr) (H : Hp) : RS K ι H [] [] := ⟨rfl, fun i d h => by simp at h⟩
theorem appU {K : PySem.W.Frag} : R2N K (fun v u H Q => rAppend v [u] H Q) appF := by
  intro ι0 H0 ι H m x y z vx vy m' Q l rm bd rx ry hf k
  unfold appF at hf
  split at hf
  · split at hf
    · rename_i n xs hm
      split at hf
      · rename_i hl; cases hf
        cases rx with
        | ref e =>
          obtain ⟨a, e1, vs, e2, r⟩ := rm.ob _ _ hm
          rw [e] at e1; cases e1
          refine ⟨_, vs, vy, rfl, rfl, e2, by rw [← r.length]; exact hl, ?_⟩
          obtain ⟨ι2, l2, rm2, rv2, _, up, ups⟩ := ry.val l rm (RS.nil K ι H)
          cases up _ _ (RV.ref e) with
          | ref e' =>
            obtain ⟨l3, rm3⟩ := set_lst rm2 e' e2 ((ups _ _ r).append (.cons rv2 .nil))
            exact k _ ι2 _ (l2.tr rm2 l3) rm3 RV.non
      · cases hf
    · cases hf
  · cases hf
/-- xs.pop(i), xs.pop() -/
noncomputable def popF (x : Out) (y : Out) (m : Mem) : Option (Out × Mem) := match x, y with
  | .v (.ref n), .v (.int i) => (match m[n]? with
    | some (.lst xs) => if i63 i then (seqIndex? i xs.length).bind fun k => (xs[k]?).map fun d => (.v d, m.set n (.lst (xs.eraseIdx k))) else none
    | _ => none)
  | _, _ => none
theorem popU {K : PySem.W.Frag} : R2S K (fun v u H Q => rPopAt v [u] H Q) popF := by
  intro ι H H0 m x y z vx vy m' Q rm bd rx ry hf k
  unfold popF at hf
  split at hf
  · split at hf
    · rename_i n i _ xs hm
      split at hf
      · rename_i hi
        obtain ⟨kk, h1, hf⟩ := bind_some hf
        obtain ⟨d, h2, h3⟩ := Option.map_eq_some_iff.mp hf
        cases h3
        cases ry
        cases rx with
        | ref e =>
          obtain ⟨a, e1, vs, e2, r⟩ := rm.ob _ _ hm
          rw [e] at e1; cases e1
          obtain ⟨v, e3, e4⟩ := r.get h2
          obtain ⟨l3, rm3⟩ := set_lst rm e e2 (r.eraseIdx kk)
          exact ⟨_, vs, i, kk, v, rfl, rfl, e2, hi.1, hi.2, by rw [← r.length]; exact h1, e3, k _ ι _ l3 rm3 (RV.mono l3 e4)⟩
      · cases hf
    · cases hf
  · cases hf
def pop0F (x : Out) (m : Mem) : Option (Out × Mem) := match x with
  | .v (.ref n) => (match m[n]? with
    | some (.lst xs) => (xs[xs.length - 1]?).map fun d => (.v d, m.set n (.lst xs.dropLast))
    | _ => none)
  | _ => none
theorem RVs.dropLast {K : PySem.W.Frag} {ι : List Addr} {H : Hp} {ds : List D} {vs : List V} (r : RVs K ι H ds vs) : RVs K ι H ds.dropLast vs.dropLast := by
  rw [List.dropLast_eq_take, List.dropLast_eq_take, r.length]
  exact r.take _
theorem pop0U {K : PySem.W.Frag} : R1S K (fun v H Q => rPop v [] H Q) pop0F := by
  intro ι H H0 m x z vx m' Q rm bd rx hf k
  unfold pop0F at hf
  split at hf
  · split at hf
    · rename_i n xs hm
      obtain ⟨d, h2, h3⟩ := Option.map_eq_some_iff.mp hf
      cases h3
      cases rx with
      | ref e =>
        obtain ⟨a, e1, vs, e2, r⟩ := rm.ob _ _ hm
        rw [e] at e1; cases e1
        obtain ⟨v, e3, e4⟩ := r.get h2
        obtain ⟨l3, rm3⟩ := set_lst rm e e2 r.dropLast
        exact ⟨_, vs, v, rfl, rfl, e2, by rw [← r.length]; exact e3, k _ ι _ l3 rm3 (RV.mono l3 e4)⟩
    · cases hf
  · cases hf
/-- xs.extend(ys) -/
noncomputable def extF (x : Out) (y : Out) (m : Mem) : Option (Out × Mem) := match x with
  | .v (.ref n) => (match m[n]? with
    | some (.lst xs) => (lstOf y m).bind fun ys => if fits (xs.length + ys.length) then some (.v .non, m.set n (.lst (xs ++ ys))) else none
    | _ => none)
  | _ => none
theorem extU {K : PySem.W.Frag} : R2S K (fun v u H Q => rExtend v [u] H Q) extF := by
  intro ι H H0 m x y z vx vy m' Q rm bd rx ry hf k
  unfold extF at hf
  split at hf
  · split at hf
    · rename_i n xs hm
      obtain ⟨ys, h1, hf⟩ := bind_some hf
      split at hf
      · rename_i hl; cases hf
        obtain ⟨b, ws, rfl, hb, rb⟩ := lst_at rm ry h1
        cases rx with
        | ref e =>
          obtain ⟨a, e1, vs, e2, r⟩ := rm.ob _ _ hm
          rw [e] at e1; cases e1
          obtain ⟨l3, rm3⟩ := set_lst rm e e2 (r.append rb)
          exact ⟨_, _, vs, ws, rfl, rfl, e2, hb, by rw [← r.length, ← rb.length]; exact hl, k _ ι _ l3 rm3 RV.non⟩
      · cases hf
    · cases hf
  · cases hf
/-- sep.join(texts) -/
def strsOf : List D → Option (List Str)
  | [] => some []
  | .str b :: r => (strsOf r).map (b :: ·)
  | _ => none
theorem strsOf_eq : ∀ {xs : List D} {bs : List Str}, strsOf xs = some bs → xs = bs.map D.str
  | [], bs, h => by cases h; rfl
  | d :: r, bs, h => by
    cases d with
    | str b =>
      rw [strsOf] at h
      obtain ⟨cs, h1, h2⟩ := Option.map_eq_some_iff.mp h
      rw [← h2, strsOf_eq h1]; rfl
    | _ => simp [strsOf] at h
theorem strsOf_map (bs : List Str) : strsOf (bs.map D.str) = some bs := by
  induction bs with
  | nil => rfl
  | cons b r ih => simp [strsOf, ih]
noncomputable def joinF (x : Out) (y : Out) (m : Mem) : Option (Out × Mem) := match x with
  | .v (.str a) => (seqOf y m).bind fun xs => (strsOf xs).bind fun ys => if fits ((ys.map (·.length)).sum + ys.length * a.length) then some (.v (.str (Txt.join a ys)), m) else none
  | _ => none
def rJoinU (K : PySem.W.Frag) : V → List V → Hp → VK → Prop := fun x xs H Q => ∃ a p, ∃ ys : List Str, x = .str a ∧ xs = [.ref p] ∧ (SqL K H p (ys.map V.str) ∨ SqT K H p (ys.map V.str)) ∧ (ys.map (·.length)).sum + ys.length * a.length ≤ 16777216 ∧ Q (.str (Txt.join a ys)) H
theorem joinU {K : PySem.W.Frag} : R2S K (fun v u H Q => rJoinU K v [u] H Q) joinF := by
  intro ι H H0 m x y z vx vy m' Q rm bd rx ry hf k
  unfold joinF at hf
  split at hf
  · obtain ⟨xs, h1, hf⟩ := bind_some hf
    obtain ⟨ys, h2, hf⟩ := bind_some hf
    split at hf
    · rename_i hl; cases hf; cases rx
      obtain ⟨a, vs, rfl, hs, r⟩ := seq_at rm ry h1
      rw [strsOf_eq h2] at r
      have := r.of_strs
      subst this
      have hl' : _ ≤ 16777216 := Nat.le_trans (show _ ≤ sizeLine from hl) (Nat.le_of_eq sizeLine_eq)
      exact ⟨_, _, ys, rfl, rfl, hs, hl', k _ ι H (Le.refl _ _) rm (RV.str _)⟩
    · cases hf
  · cases hf
/-! ### in -/
mutual
def flatD : D → Bool
  | .non => true
  | .bl _ => true
  | .int _ => true
  | .str _ => true
  | _ => false
end
theorem flatD_v {K : PySem.W.Frag} {ι : List Addr} {H : Hp} {d : D} {v : V} (r : RV K ι H d v) (h : flatD d = true) : flatV v = true := by
  cases r <;> first | rfl | (simp [flatD] at h)
theorem flatD_all {K : PySem.W.Frag} {ι : List Addr} {H : Hp} : ∀ {ds : List D} {vs : List V}, RVs K ι H ds vs → ds.all flatD = true → vs.all flatV = true
  | _, _, .nil, _ => rfl
  | _, _, .cons r t, h => by
    simp only [List.all_cons, Bool.and_eq_true] at h ⊢
    exact ⟨flatD_v r h.1, flatD_all t h.2⟩
theorem eqV_D {K : PySem.W.Frag} {ι : List Addr} {H : Hp} {d e : D} {v u : V} (r : RV K ι H d v) (q : RV K ι H e u) (h : flatD d = true) (h2 : flatD e = true) : eqV v u = d.eqb e := by
  cases r <;> cases q <;> first | (simp [flatD] at h; done) | (simp [flatD] at h2; done) | simp [eqV, D.eqb, bdec]
theorem inV_D {K : PySem.W.Frag} {ι : List Addr} {H : Hp} {e : D} {u : V} (q : RV K ι H e u) (h2 : flatD e = true) : ∀ {ds : List D} {vs : List V}, RVs K ι H ds vs → ds.all flatD = true → inV u vs = ds.any fun d => d.eqb e
  | _, _, .nil, _ => rfl
  | _, _, .cons r t, h => by
    simp only [List.all_cons, Bool.and_eq_true] at h
    have ih := inV_D q h2 t h.2
    unfold inV at ih ⊢
    simp only [List.any_cons, ih, eqV_D r q h.1 h2]
/-- x in y: a sign in a text; flat things in a list or tuple; any data in a list -/
def inF (neg : Bool) (x : Out) (y : Out) (m : Mem) : Option (Out × Mem) := match y with
  | .v (.str z) => (match x with
    | .v (.str a) => some (.v (.bl (if neg then !(!(Builtin.Str.occurrences z a 0 z.length 1).isEmpty) else !(Builtin.Str.occurrences z a 0 z.length 1).isEmpty)), m)
    | _ => none)
  | y => (form x m).bind fun a => (seqOf y m).bind fun xs =>
    if flatD a = true ∧ xs.all flatD = true then some (.v (.bl (if neg then !(xs.any fun d => d.eqb a) else xs.any fun d => d.eqb a)), m)
    else if okD 64 a = true ∧ okL 63 xs = true then some (.v (.bl (if neg then !(xs.any fun d => d.eqb a) else xs.any fun d => d.eqb a)), m) else none
section
variable {X : Cx}
def rInT (K : PySem.W.Frag) (neg : Bool) : R2 := fun x y H Q => ∃ d ds, Dp K H x d ∧ Dp K H y (.tuple ds) ∧ SeqAt.shaped d = true ∧ SeqAt.shaped (.tuple ds) = true ∧ Q (.bl (if neg then !(ds.any fun z => PyData.eqv z d) else ds.any fun z => PyData.eqv z d)) H
theorem op_inT (hu : X.A.units + 65 < cLine) : OpR X (compareOp .In) (rInT X.K false) := by
  intro pins s σ H x y v u Q I rx ry h
  obtain ⟨d, ds, hd, he, sd, se, q⟩ := h
  obtain ⟨as, r1⟩ := Dp.reads I d x v hd rx
  obtain ⟨bs, r2⟩ := Dp.reads I (.tuple ds) y u he ry
  exact SeqAt.in_tuple_reads r2 r1 (SeqAt.canLay_of_shaped se) (SeqAt.canLay_of_shaped sd) (PyProof.Rows.room_in_shaped sd hu) ⟨.bl _, H, I, rfl, q⟩
theorem op_notInT (hu : X.A.units + 65 < cLine) : OpR X (compareOp .NotIn) (rInT X.K true) := by
  intro pins s σ H x y v u Q I rx ry h
  obtain ⟨d, ds, hd, he, sd, se, q⟩ := h
  obtain ⟨as, r1⟩ := Dp.reads I d x v hd rx
  obtain ⟨bs, r2⟩ := Dp.reads I (.tuple ds) y u he ry
  exact SeqAt.notIn_tuple_reads r2 r1 (SeqAt.canLay_of_shaped se) (SeqAt.canLay_of_shaped sd) (PyProof.Rows.room_in_shaped sd hu) ⟨.bl _, H, I, rfl, q⟩
end
theorem any_pd {a : D} : ∀ {xs : List D} {n k : Nat}, okD n a = true → okL k xs = true → ((pdL xs).any fun z => PyData.eqv z a.pd) = xs.any fun d => d.eqb a
  | [], _, _, _, _ => rfl
  | d :: ds, n, k, h, h2 => by
    rw [okL, Bool.and_eq_true] at h2
    rw [pdL]
    simp only [List.any_cons, any_pd h h2.2, pd_eqv d a k n h2.1 h]
def rInU (K : PySem.W.Frag) : R2 := fun x y H Q => (((∃ i j, x = .str i ∧ y = .str j ∧ Q (.bl (!(Builtin.Str.occurrences j i 0 j.length 1).isEmpty)) H) ∨ rIn K false x y H Q) ∨ rInD K x y H Q) ∨ rInT K false x y H Q
def rNotInU (K : PySem.W.Frag) : R2 := fun x y H Q => (((∃ i j, x = .str i ∧ y = .str j ∧ Q (.bl (!(!(Builtin.Str.occurrences j i 0 j.length 1).isEmpty))) H) ∨ rIn K true x y H Q) ∨ rNotInD K x y H Q) ∨ rInT K true x y H Q
theorem op_inU {X : Cx} (hu : X.A.units + 65 < cLine) : OpR X (compareOp .In) (rInU X.K) := ((op_in_str.or op_in_seq).or (op_inD hu)).or (op_inT hu)
theorem op_notInU {X : Cx} (hu : X.A.units + 65 < cLine) : OpR X (compareOp .NotIn) (rNotInU X.K) := ((op_notin_str.or op_notIn_seq).or (op_notInD hu)).or (op_notInT hu)
theorem flat_ok {a : D} (h : flatD a = true) (h2 : okD 64 a = true) : True := trivial
theorem form_flat {K : PySem.W.Frag} {ι : List Addr} {H H0 : Hp} {m : Mem} {x : Out} {v : V} {a : D} (ro : RO K H0 ι H x v) (h : form x m = some a) (hf : flatD a = true) : RV K ι H a v := by
  unfold form at h
  split at h
  · split at h
    · cases h; simp [flatD] at hf
    · cases h
  · cases h; simp [flatD] at hf
  · cases h; exact ro
  · cases h
/-- a list or a tuple as data -/
theorem seq_dp {K : PySem.W.Frag} {ι : List Addr} {H H0 : Hp} {m : Mem} {y : Out} {v : V} {xs : List D} (rm : RM K ι H m) (ro : RO K H0 ι H y v) (h : seqOf y m = some xs) (hk : okL 63 xs = true) : Dp K H v (.list (pdL xs)) ∨ Dp K H v (.tuple (pdL xs)) := by
  obtain ⟨a, vs, rfl, hs, r⟩ := seq_at rm ro h
  rcases hs with hs | hs
  · exact .inl (.lst hs (r.dp hk))
  · exact .inr (.tup hs (r.dp hk))
theorem shapedL {xs : List D} (hk : okL 63 xs = true) : SeqAt.shaped (.list (pdL xs)) = true := by
  have q := pdL_lay xs 63 hk
  unfold SeqAt.shaped
  simp only [PyData.canLay0, PyData.depth, q.1, Bool.true_and]
  exact decide_eq_true (by omega)
theorem shapedT {xs : List D} (hk : okL 63 xs = true) : SeqAt.shaped (.tuple (pdL xs)) = true := by
  have q := pdL_lay xs 63 hk
  unfold SeqAt.shaped
  simp only [PyData.canLay0, PyData.depth, q.1, Bool.true_and]
  exact decide_eq_true (by omega)
theorem inU {K : PySem.W.Frag} : R2S K (rInU K) (inF false) := by
  intro ι H H0 m x y z vx vy m' Q rm bd rx ry hf k
  unfold inF at hf
  split at hf
  · split at hf
    · cases hf; cases rx; cases ry
      exact .inl (.inl (.inl ⟨_, _, rfl, rfl, k _ ι H (Le.refl _ _) rm (RV.bl _)⟩))
    · cases hf
  · obtain ⟨a, h1, hf⟩ := bind_some hf
    obtain ⟨xs, h2, hf⟩ := bind_some hf
    split at hf
    · rename_i hfl; cases hf
      have ra := form_flat rx h1 hfl.1
      obtain ⟨p, vs, rfl, hs, r⟩ := seq_at rm ry h2
      refine .inl (.inl (.inr ⟨_, vs, rfl, hs, flatD_v ra hfl.1, flatD_all r hfl.2, ?_⟩))
      rw [inV_D ra hfl.1 r hfl.2]
      exact k _ ι H (Le.refl _ _) rm (RV.bl _)
    · split at hf
      · rename_i hok; cases hf
        have da := form_at rm rx h1 hok.1
        rw [if_neg Bool.false_ne_true] at k
        rcases seq_dp rm ry h2 hok.2 with q | q
        · exact .inl (.inr ⟨_, _, da, q, shaped_of hok.1, shapedL hok.2, by rw [any_pd hok.1 hok.2]; exact k _ ι H (Le.refl _ _) rm (RV.bl _)⟩)
        · refine .inr ⟨_, _, da, q, shaped_of hok.1, shapedT hok.2, ?_⟩
          rw [any_pd hok.1 hok.2]
          exact k _ ι H (Le.refl _ _) rm (RV.bl _)
      · cases hf
theorem notInU {K : PySem.W.Frag} : R2S K (rNotInU K) (inF true) := by
  intro ι H H0 m x y z vx vy m' Q rm bd rx ry hf k
  unfold inF at hf
  split at hf
  · split at hf
    · cases hf; cases rx; cases ry
      exact .inl (.inl (.inl ⟨_, _, rfl, rfl, k _ ι H (Le.refl _ _) rm (RV.bl _)⟩))
    · cases hf
  · obtain ⟨a, h1, hf⟩ := bind_some hf
    obtain ⟨xs, h2, hf⟩ := bind_some hf
    split at hf
    · rename_i hfl; cases hf
      have ra := form_flat rx h1 hfl.1
      obtain ⟨p, vs, rfl, hs, r⟩ := seq_at rm ry h2
      refine .inl (.inl (.inr ⟨_, vs, rfl, hs, flatD_v ra hfl.1, flatD_all r hfl.2, ?_⟩))
      rw [inV_D ra hfl.1 r hfl.2]
      exact k _ ι H (Le.refl _ _) rm (RV.bl _)
    · split at hf
      · rename_i hok; cases hf
        have da := form_at rm rx h1 hok.1
        rw [if_pos rfl] at k
        rcases seq_dp rm ry h2 hok.2 with q | q
        · exact .inl (.inr ⟨_, _, da, q, shaped_of hok.1, shapedL hok.2, by rw [any_pd hok.1 hok.2]; exact k _ ι H (Le.refl _ _) rm (RV.bl _)⟩)
        · refine .inr ⟨_, _, da, q, shaped_of hok.1, shapedT hok.2, ?_⟩
          rw [any_pd hok.1 hok.2]
          exact k _ ι H (Le.refl _ _) rm (RV.bl _)
      · cases hf
/-! ### o[i] = v in a list -/
def stoF (o i : Out) (d : D) (m : Mem) : Option Mem := match o, i with
  | .v (.ref n), .v (.int k) => (match m[n]? with
    | some (.lst xs) => (ixN xs.length k).map fun j => m.set n (.lst (xs.set j d))
    | _ => none)
  | _, _ => none
@[simp] def gIx (o i : E) (d : D) (ρ : Env) (m : Mem) : Option (Env × Mem) := (o ρ m).bind fun x => (i ρ x.2).bind fun y => (stoF x.1 y.1 d y.2).bind fun m' => some (ρ, m')
theorem sg_ix {X : Cx} {e : Expr} {fo fi : E} (h0 : PG X e (gSub (tE X.K fo) (tE X.K fi) rSetL)) : SG X e (gIx fo fi) := pg_imp h0 fun v σ H Q ⟨ι, ρ, m, d, ρ', m', rs, rm, rv, hg, k⟩ => by
  obtain ⟨x, h1, hg⟩ := bind_some hg
  obtain ⟨y, h2, hg⟩ := bind_some hg
  obtain ⟨m2, h3, hg⟩ := bind_some hg
  cases hg
  refine ⟨ι, ρ, m, x.1, x.2, rs, rm, h1, fun ov ι1 H1 l1 rm1 ro1 bd1 => ?_⟩
  refine ⟨ι1, ρ, x.2, y.1, y.2, rs.mono l1, rm1, h2, fun iv ι2 H2 l2 rm2 ro2 bd2 => ?_⟩
  unfold stoF at h3
  split at h3
  · rename_i n kk e1 e2
    rw [e1] at ro1
    rw [e2] at ro2
    cases ro2
    split at h3
    · rename_i xs hm
      obtain ⟨j, h4, h5⟩ := Option.map_eq_some_iff.mp h3
      cases h5
      have ro3 := ro1.mono l2
      cases ro3 with
      | ref e =>
        obtain ⟨a, e3, vs, e4, r⟩ := rm2.ob _ _ hm
        rw [e] at e3; cases e3
        obtain ⟨l3, rm3⟩ := set_lst rm2 e e4 (r.set ((rv.mono l1).mono l2) j)
        exact ⟨_, vs, kk, j, rfl, rfl, e4, by rw [← r.length]; exact h4, k _ ι2 _ (l1.tr rm1 (l2.tr rm2 l3)) (((rs.mono l1).mono l2).mono l3) rm3⟩
    · cases h3
  · cases h3
end Q
namespace Q
open PySem L2

/-! ### short words for the terms that are printed -/
section
variable {X : Cx} {e a b c : Expr} {es : List Expr} {pos p p2 : Pos} {fa fb fc : E} {ca cb : B} {fr : A} {x : Str} {k j : Nat}
theorem v_ (i : Nat) {x : Str} {pos : Pos} (hN : X.N[i]? = some x := by rfl) (hv : Vis X.env.scope x := by first | exact Or.inl rfl | exact Or.inr (Or.inl rfl) | exact Or.inr (Or.inr rfl)) (hd : (x == ("__debug__" : Str)) = false := by decide)
    (hcd : (x == ("__classdict__" : Str)) = false := by decide) : SE X (.Name x pos) (eVar i) := se_var (pe_var hN hv hd hcd)
theorem ci {i : Int} {j : Nat} : SE X (.Constant (.int i) j pos) (eC (.int i)) := se_c pe_int fun _ _ _ => .int i
theorem cs {s : Str} {j : Nat} : SE X (.Constant (.str s) j pos) (eC (.str s)) := se_c pe_str fun _ _ _ => .str s
theorem cb_ {b : Bool} {j : Nat} : SE X (.Constant (.bool b) j pos) (eC (.bl b)) := se_c pe_bl fun _ _ _ => .bl b
theorem cn {j : Nat} : SE X (.Constant .none j pos) (eC .non) := se_c pe_non fun _ _ _ => .non
/-- constants of the module -/
theorem gs_ {s : Str} {t : Tok} (h : X.mg x = some (.str s t)) (hg : Gl X x := by rfl) (hd : (x == ("__debug__" : Str)) = false := by decide) : SE X (.Name x pos) (eC (.str s)) := se_c (v := .str s) (pe_glob hg h ⟨t, rfl⟩ hd) fun _ _ _ => .str s
theorem gi_ {s : Int} {t : Tok} (h : X.mg x = some (.int s t)) (hg : Gl X x := by rfl) (hd : (x == ("__debug__" : Str)) = false := by decide) : SE X (.Name x pos) (eC (.int s)) := se_c (v := .int s) (pe_glob hg h ⟨t, rfl⟩ hd) fun _ _ _ => .int s
theorem add_ (ha : SE X a fa) (hb : SE X b fb) : SE X (.BinOp a .Add b pos) (eBin addF fa fb) := se_op op_addU addU ha hb
theorem sub_ (ha : SE X a fa) (hb : SE X b fb) : SE X (.BinOp a .Sub b pos) (eBin subF fa fb) := se_op op_sub subU ha hb
theorem mul_ (ha : SE X a fa) (hb : SE X b fb) : SE X (.BinOp a .Mult b pos) (eBin mulF fa fb) := se_op op_mulU mulU ha hb
theorem mod_ (ha : SE X a fa) (hb : SE X b fb) : SE X (.BinOp a .Mod b pos) (eBin modF fa fb) := se_op op_mod modU ha hb
theorem div_ (ha : SE X a fa) (hb : SE X b fb) : SE X (.BinOp a .FloorDiv b pos) (eBin divF fa fb) := se_op op_fdiv divU ha hb
theorem pow_ (ha : SE X a fa) (hb : SE X b fb) : SE X (.BinOp a .Pow b pos) (eBin powF fa fb) := se_op op_pow powU ha hb
theorem neg_ (ha : SE X a fa) : SE X (.UnaryOp .USub a pos) (eUn negF fa) := se_un un_neg negU ha (pe_un un_neg ha)
theorem and_ {rest : List Expr} (ha : SE X a fa) (hb : SE X (.BoolOp .And (b :: rest) pos) fb) : SE X (.BoolOp .And (a :: b :: rest) pos) (eAnd fa fb) := se_and ha hb (pe_and ha hb)
theorem or_ {rest : List Expr} (ha : SE X a fa) (hb : SE X (.BoolOp .Or (b :: rest) pos) fb) : SE X (.BoolOp .Or (a :: b :: rest) pos) (eOr fa fb) := se_or ha hb (pe_or ha hb)
theorem one_ {op : BoolOp} (ha : SE X a fa) : SE X (.BoolOp op [a] pos) fa := pe_one ha
theorem not_ (ha : SE X a fa) : SE X (.UnaryOp .Not a pos) (eNot fa) := se_not (pe_not ha)
theorem if_ (hc : ST X c ca) (ha : SE X a fa) (hb : SE X b fb) : SE X (.IfExp c a b pos) (eIf ca fa fb) := se_if (pe_ifExp hc ha hb)
/-! comparisons as values and as tests -/
theorem eq_ (hr : Room k X.A) (ha : SE X a fa) (hb : SE X b fb) : SE X (.Compare a [.Eq] [b] pos) (eBin eqF fa fb) := se_cmp (op_eqD hr.units) eqU ha hb (nomark _)
theorem ne_ (hr : Room k X.A) (ha : SE X a fa) (hb : SE X b fb) : SE X (.Compare a [.NotEq] [b] pos) (eBin neF fa fb) := se_cmp (op_neD hr.units) neU ha hb (nomark _)
theorem lt_ (ha : SE X a fa) (hb : SE X b fb) : SE X (.Compare a [.Lt] [b] pos) (eBin ltF fa fb) := se_cmp op_lt cmpU ha hb (nomark _)
theorem le_ (ha : SE X a fa) (hb : SE X b fb) : SE X (.Compare a [.LtE] [b] pos) (eBin leF fa fb) := se_cmp op_le cmpU ha hb (nomark _)
theorem gt_ (ha : SE X a fa) (hb : SE X b fb) : SE X (.Compare a [.Gt] [b] pos) (eBin gtF fa fb) := se_cmp op_gt cmpU ha hb (nomark _)
theorem ge_ (ha : SE X a fa) (hb : SE X b fb) : SE X (.Compare a [.GtE] [b] pos) (eBin geF fa fb) := se_cmp op_ge cmpU ha hb (nomark _)
theorem is_ (ha : SE X a fa) (hb : SE X b fb) : SE X (.Compare a [.Is] [b] pos) (eBin (isF false) fa fb) := se_cmp op_isU isU ha hb (nomark _)
theorem isn_ (ha : SE X a fa) (hb : SE X b fb) : SE X (.Compare a [.IsNot] [b] pos) (eBin (isF true) fa fb) := se_cmp op_isNU isNU ha hb (nomark _)
theorem u65 (hr : Room k X.A) : X.A.units + 65 < cLine := by have := hr.un; omega
theorem in_ (hr : Room k X.A) (ha : SE X a fa) (hb : SE X b fb) (hm : behindInMarks .In b = false := by with_unfolding_all rfl) : SE X (.Compare a [.In] [b] pos) (eBin (inF false) fa fb) := se_cmp (op_inU (u65 hr)) inU ha hb hm
theorem nin_ (hr : Room k X.A) (ha : SE X a fa) (hb : SE X b fb) (hm : behindInMarks .NotIn b = false := by with_unfolding_all rfl) : SE X (.Compare a [.NotIn] [b] pos) (eBin (inF true) fa fb) := se_cmp (op_notInU (u65 hr)) notInU ha hb hm
theorem t_eq (hr : Room k X.A) (ha : SE X a fa) (hb : SE X b fb) : ST X (.Compare a [.Eq] [b] pos) (bOf (eBin eqF fa fb)) := st_cmp (op_eqD hr.units) eqU ha hb (nomark _)
theorem t_ne (hr : Room k X.A) (ha : SE X a fa) (hb : SE X b fb) : ST X (.Compare a [.NotEq] [b] pos) (bOf (eBin neF fa fb)) := st_cmp (op_neD hr.units) neU ha hb (nomark _)
theorem t_lt (ha : SE X a fa) (hb : SE X b fb) : ST X (.Compare a [.Lt] [b] pos) (bOf (eBin ltF fa fb)) := st_cmp op_lt cmpU ha hb (nomark _)
theorem t_le (ha : SE X a fa) (hb : SE X b fb) : ST X (.Compare a [.LtE] [b] pos) (bOf (eBin leF fa fb)) := st_cmp op_le cmpU ha hb (nomark _)
theorem t_gt (ha : SE X a fa) (hb : SE X b fb) : ST X (.Compare a [.Gt] [b] pos) (bOf (eBin gtF fa fb)) := st_cmp op_gt cmpU ha hb (nomark _)
theorem t_ge (ha : SE X a fa) (hb : SE X b fb) : ST X (.Compare a [.GtE] [b] pos) (bOf (eBin geF fa fb)) := st_cmp op_ge cmpU ha hb (nomark _)
theorem t_is (ha : SE X a fa) (hb : SE X b fb) : ST X (.Compare a [.Is] [b] pos) (bOf (eBin (isF false) fa fb)) := st_cmp op_isU isU ha hb (nomark _)
theorem t_isn (ha : SE X a fa) (hb : SE X b fb) : ST X (.Compare a [.IsNot] [b] pos) (bOf (eBin (isF true) fa fb)) := st_cmp op_isNU isNU ha hb (nomark _)
theorem t_in (hr : Room k X.A) (ha : SE X a fa) (hb : SE X b fb) (hm : behindInMarks .In b = false := by with_unfolding_all rfl) : ST X (.Compare a [.In] [b] pos) (bOf (eBin (inF false) fa fb)) := st_cmp (op_inU (u65 hr)) inU ha hb hm
theorem t_nin (hr : Room k X.A) (ha : SE X a fa) (hb : SE X b fb) (hm : behindInMarks .NotIn b = false := by with_unfolding_all rfl) : ST X (.Compare a [.NotIn] [b] pos) (bOf (eBin (inF true) fa fb)) := st_cmp (op_notInU (u65 hr)) notInU ha hb hm
/-- chains of two, of ints -/
theorem ch_ {op op' : CmpOp} {r r' : R2} {f g : F2} (ho : OpR X (compareOp op) r) (ho' : OpR X (compareOp op') r') (hr : R2S X.K r f) (hr' : R2S X.K r' g) (ha : SE X a fa) (hb : SE X b fb) (hc : SE X c fc)
    (hm : lastMarks [op, op'] [b, c] = false := by with_unfolding_all rfl) : SE X (.Compare a [op, op'] [b, c] pos) (eChain f g fa fb fc) := se_chain (pe_chain ho ho' ha hb hc hm) hr hr'
theorem t_ch {op op' : CmpOp} {r r' : R2} {f g : F2} (ho : OpR X (compareOp op) r) (ho' : OpR X (compareOp op') r') (hr : R2S X.K r f) (hr' : R2S X.K r' g) (ha : SE X a fa) (hb : SE X b fb) (hc : SE X c fc)
    (hm : lastMarks [op, op'] [b, c] = false := by with_unfolding_all rfl) : ST X (.Compare a [op, op'] [b, c] pos) (bOf (eChain f g fa fb fc)) := st_chain (pt_chain ho ho' ha hb hc hm) hr hr'
theorem t_val (h : SE X e fa) (he : ∀ whole, isTrue e X.env whole = (do let v ← whole; standAt e.pos; holding [v] (truthy v)) := by intro _; rfl) : ST X e (bOf fa) := st_of (pt_val h he)
theorem t_not (h : ST X a ca) : ST X (.UnaryOp .Not a pos) (bNot ca) := st_not (pt_not h)
theorem w_and {rest : List Expr} (ha : ST X a ca) (hb : SW X (.BoolOp .And (b :: rest) pos) cb) : SW X (.BoolOp .And (a :: b :: rest) pos) (bAnd ca cb) := sw_and (pw_and ha hb)
theorem w_or {rest : List Expr} (ha : ST X a ca) (hb : SW X (.BoolOp .Or (b :: rest) pos) cb) : SW X (.BoolOp .Or (a :: b :: rest) pos) (bOr ca cb) := sw_or (pw_or ha hb)
theorem w_and1 (ha : ST X a ca) : SW X (.BoolOp .And [a] pos) ca := pw_and1 ha
theorem w_or1 (ha : ST X a ca) : SW X (.BoolOp .Or [a] pos) ca := pw_or1 ha
theorem t_w (h : SW X e ca) : ST X e ca := h.pt
/-! arguments -/
theorem a0 : SA X [] aNil := sa_nil
theorem a1 (h : SE X e fa) (hr : SA X es fr) (hs : starEach (e :: es) X.env = (false, eval e X.env) :: starEach es X.env := by rfl) : SA X (e :: es) (aCons fa fr) := sa_cons (pa_cons h hr hs)
theorem pa1 {ta : TE} (h : PE X a ta) (hs : starEach [a] X.env = (false, eval a X.env) :: starEach [] X.env := by rfl) : PA X [a] (tCons ta tNil) := pa_cons h pa_nil hs
theorem pa2 {ta tb : TE} (h : PE X a ta) (h2 : PE X b tb) (hs : starEach [a, b] X.env = (false, eval a X.env) :: starEach [b] X.env := by rfl) (hs2 : starEach [b] X.env = (false, eval b X.env) :: starEach [] X.env := by rfl) : PA X [a, b] (tCons ta (tCons tb tNil)) := pa_cons h (pa_cons h2 pa_nil hs2) hs
theorem tup_ {k1 : Nat} (h : SA X es fr) : SE X (.Tuple es k1 pos) (eTup fr) := se_tup h
theorem lst_ (h : SA X es fr) : SE X (.List es pos) (eLst fr) := se_lst h
/-! subscripts -/
theorem ix_ (ha : SE X a fa) (hb : SE X b fb) (hs : PlainIx b := by exact fun _ _ => rfl) : SE X (.Subscript a b pos) (eBin ixF fa fb) := se_ix ix_seq ixU ha hb hs
theorem sl_ {lo hi : Option Expr} {fl fh : O} (ha : SE X a fa) (hl : PO X lo (tO X.K fl)) (hh : PO X hi (tO X.K fh)) : SE X (.Subscript a (.Slice lo hi none p2) pos) (eSl fa fl fh) := se_slice (pos := pos) (p2 := p2) ha hl hh (pe_slice ((sl_list.or sl_tupN).or sl_str) ha hl hh)
theorem o0 : PO X none (tO X.K oNone) := so_none
theorem o1 (h : SE X e fa) : PO X (some e) (tO X.K (oSome fa)) := so_some h
/-! built-in functions -/
theorem len_ (hm : X.mg "len" = none) (ha : SE X a fa) (hg : Gl X "len" := by rfl) (hs : starEach [a] X.env = (false, eval a X.env) :: starEach [] X.env := by rfl) (hpl : (backTo pos (starEach [] X.env)).any (·.1) = false := by rfl) : SE X (.Call (.Name "len" p) [a] [] pos) (eUn lenF fa) :=
  se_b1 (pe_callB call_lenU hg hm PySem.boot_len (pa1 ha hs) (by decide) (by decide) hs hpl) lenU
theorem abs_ (hm : X.mg "abs" = none) (ha : SE X a fa) (hg : Gl X "abs" := by rfl) (hs : starEach [a] X.env = (false, eval a X.env) :: starEach [] X.env := by rfl) (hpl : (backTo pos (starEach [] X.env)).any (·.1) = false := by rfl) : SE X (.Call (.Name "abs" p) [a] [] pos) (eUn absF fa) :=
  se_b1 (pe_callB call_abs hg hm (by decide +kernel) (pa1 ha hs) (by decide) (by decide) hs hpl) absU
theorem all_ (hm : X.mg "all" = none) (ha : SE X a fa) (hc : X.calm = true := by rfl) (hg : Gl X "all" := by rfl) (hs : starEach [a] X.env = (false, eval a X.env) :: starEach [] X.env := by rfl) (hpl : (backTo pos (starEach [] X.env)).any (·.1) = false := by rfl) : SE X (.Call (.Name "all" p) [a] [] pos) (eUn allF fa) :=
  se_b1 (pe_callB (cr_all hc) hg hm (by decide +kernel) (pa1 ha hs) (by decide) (by decide) hs hpl) allU
theorem any_ (hm : X.mg "any" = none) (ha : SE X a fa) (hc : X.calm = true := by rfl) (hg : Gl X "any" := by rfl) (hs : starEach [a] X.env = (false, eval a X.env) :: starEach [] X.env := by rfl) (hpl : (backTo pos (starEach [] X.env)).any (·.1) = false := by rfl) : SE X (.Call (.Name "any" p) [a] [] pos) (eUn anyF fa) :=
  se_b1 (pe_callB (cr_any hc) hg hm (by decide +kernel) (pa1 ha hs) (by decide) (by decide) hs hpl) anyU
theorem int_ (hm : X.mg "int" = none) (ha : SE X a fa) (hg : Gl X "int" := by rfl) (hs : starEach [a] X.env = (false, eval a X.env) :: starEach [] X.env := by rfl) (hpl : (backTo pos (starEach [] X.env)).any (·.1) = false := by rfl) : SE X (.Call (.Name "int" p) [a] [] pos) (eUn intF fa) :=
  se_b1 (pe_callTy call_int1 hg hm (by decide +kernel) (pa1 ha hs) (by decide) (by decide) hs hpl) intU
theorem list_ (hm : X.mg "list" = none) (ha : SE X a fa) (hg : Gl X "list" := by rfl) (hs : starEach [a] X.env = (false, eval a X.env) :: starEach [] X.env := by rfl) (hpl : (backTo pos (starEach [] X.env)).any (·.1) = false := by rfl) : SE X (.Call (.Name "list" p) [a] [] pos) (eUn listF fa) :=
  se_b1 (pe_callTy call_list_of hg hm (by decide +kernel) (pa1 ha hs) (by decide) (by decide) hs hpl) listU
theorem tuple_ (hm : X.mg "tuple" = none) (ha : SE X a fa) (hg : Gl X "tuple" := by rfl) (hs : starEach [a] X.env = (false, eval a X.env) :: starEach [] X.env := by rfl) (hpl : (backTo pos (starEach [] X.env)).any (·.1) = false := by rfl) : SE X (.Call (.Name "tuple" p) [a] [] pos) (eUn tupF fa) :=
  se_b1 (pe_callTy call_tuple_ofN hg hm (by decide +kernel) (pa1 ha hs) (by decide) (by decide) hs hpl) tupU
theorem bt_ {t : Ty} (hm : X.mg t.nm = none) (hg : Gl X t.nm := by rfl) : PE X (.Name t.nm p) (tC (.ty t.nm)) := by
  cases t <;> exact pe_bltn hg hm (u := .type _) (by decide +kernel) rfl
theorem isi_ (t : Ty) (hm : X.mg "isinstance" = none) (ht : PE X b (tC (.ty t.nm))) (ha : SE X a fa) (hg : Gl X "isinstance" := by rfl) (hs : starEach [a, b] X.env = (false, eval a X.env) :: starEach [b] X.env := by rfl)
    (hs2 : starEach [b] X.env = (false, eval b X.env) :: starEach [] X.env := by rfl) (hpl : (backTo pos (starEach [b] X.env)).any (·.1) = false := by rfl) : SE X (.Call (.Name "isinstance" p) [a, b] [] pos) (eUn (isiF t) fa) :=
  se_isi (pe_callB call_isi hg hm (by decide +kernel) (pa2 ha ht hs hs2) (by decide) (by decide) hs hpl)
/-! methods -/
theorem app_ (h0 : PE X e (tBM X.K "list" rAppend (tE X.K fa) (tCons (tE X.K fb) tNil))) : SE X e (eMt1 "list" appF fa fb) := se_mt1 h0 appU
theorem pop_ (h0 : PE X e (tBM X.K "list" rPopAt (tE X.K fa) (tCons (tE X.K fb) tNil))) : SE X e (eMt1 "list" popF fa fb) := se_mt1 h0 popU.n
theorem pop0_ (h0 : PE X e (tBM0 X.K "list" rPop (tE X.K fa))) : SE X e (eMt0 "list" pop0F fa) := se_mt0 h0 pop0U
theorem ext_ (h0 : PE X e (tBM X.K "list" rExtend (tE X.K fa) (tCons (tE X.K fb) tNil))) : SE X e (eMt1 "list" extF fa fb) := se_mt1 h0 extU.n
theorem join_ (h0 : PE X e (tBM X.K "str" (rJoinU X.K) (tE X.K fa) (tCons (tE X.K fb) tNil))) : SE X e (eMt1 "str" joinF fa fb) := se_mt1 h0 joinU.n
/-! walks -/
theorem rg1_ {tg : Expr} (hm : X.mg "range" = none) (ha : SE X a fa) (hg : Gl X "range" := by rfl) (hs : starEach [a] X.env = [(false, eval a X.env)] := by rfl) : SI X tg (.Call (.Name "range" p) [a] [] pos) (iRg1 fa) := si_rg1 (pi_range1 hg hm (pa_cons ha pa_nil hs) hs)
theorem rg2_ {tg : Expr} (hm : X.mg "range" = none) (ha : SE X a fa) (hb : SE X b fb) (hg : Gl X "range" := by rfl) (hs : starEach [a, b] X.env = [(false, eval a X.env), (false, eval b X.env)] := by rfl) (hs2 : starEach [b] X.env = [(false, eval b X.env)] := by rfl)
    (hs3 : starEach [a, b] X.env = (false, eval a X.env) :: starEach [b] X.env := by rfl) : SI X tg (.Call (.Name "range" p) [a, b] [] pos) (iRg2 fa fb) := si_rg2 (pi_range2 hg hm (pa_cons ha (pa_cons hb pa_nil hs2) hs3) hs hs2)
theorem we {tg : Expr} (h : SE X e fa) : SI X tg e (iE fa) := si_e h
/-! targets -/
theorem nm_ (i : Nat) {x : Str} {pos : Pos} (hN : X.N.Nodup) (hi : X.N[i]? = some x := by rfl) (hx : Loc X.env.scope x := by first | exact .inl rfl | exact .inr rfl) (hf : X.fn x = true ∨ X.env.scope.names.lookup x = some .local := by first | exact .inl rfl | exact .inr rfl) : PG X (.Name x pos) (gName i) := pg_name hN hi hx hf
end
/-! ### a def of the top -/
def Df (K : PySem.W.Frag) (mg : Str → Option Value) (x : Str) (st : Stmt) : Prop := ∃ (f : Addr) (fd : FuncData), mg x = some (.ref f) ∧ Fun K x x st f fd
structure Callee (P : Program) (w : World) (K : PySem.W.Frag) (mg : Str → Option Value) (base : Heap) (k : Nat) (x : Str) (n : Nat) (F : Fn) : Prop where
  ex : ∃ (f : Addr) (fd : FuncData) (ps : List Str), FnOk P w K mg base CX0 k f fd ps (spF K n F) ∧ mg x = some (.ref f) ∧ PySem.W.keepIn K (.ref f) = true ∧ Binds K fd ps []
  len : ∀ ds m r, F ds m = some r → ds.length = n
section
variable {P : Program} {w : World} {K : PySem.W.Frag} {mg : Str → Option Value} {base : Heap}
theorem mkC {x : Str} {st : Stmt} {N ps : List Str} {k : Nat} {body : S} {np ns : Nat} (d : Df K mg x st) (Sc : FnScope N ps (defScope st)) (hp : ps.length = np) (hn : N.length = ns)
    (hb : ∀ (kV doc pm : Value) (an : Option Addr) (cdv ct : Value) (us : List Value), us.length = ps.length → bindArgs (PySem.W.fnOf x x (defArgs st) (defBody st) (defScope st) .none kV doc pm an cdv ct) ⟨us, []⟩ = pure (ps.zip us))
    (h : ∀ (f : Addr) (cdv : Value) (A : Around) (outer : List PySem.Env) (s : Shared) (H : Hp) (E : XK), Room k (A.deeper (PyProof.Rows.envOfC x (defScope st) s.heap.objs.size f cdv)) → SSs (cxOf CX0 P w K mg base N x (defScope st) f cdv A outer s H E).nox (defBody st) body) :
    Callee P w K mg base (k + 1) x np (fnD np ns body) := by
  obtain ⟨f, fd, e, F⟩ := d
  exact ⟨⟨f, fd, ps, fn_ok F Sc hp hn (h f), e, F.kp, F.binds hb⟩, fnD_len⟩
theorem call_ {X : Cx} {e : Expr} {es : List Expr} {pos p : Pos} {x : Str} {k j n : Nat} {F : Fn} {fr : A} (c : Callee X.prog X.w X.K X.mg X.base k x n F) (hr : Room j X.A) (hk : k ≤ j) (ha : SA X (e :: es) fr) (hg : Gl X x := by rfl)
    (hdb : (x == ("__debug__" : Str)) = false := by decide) (he : starEach (e :: es) X.env = (false, eval e X.env) :: starEach es X.env := by rfl) (hpl : (backTo pos (starEach es X.env)).any (·.1) = false := by rfl) : SE X (.Call (.Name x p) (e :: es) [] pos) (eCall F fr) := by
  obtain ⟨f, fd, ps, h1, h2, h3, h4⟩ := c.ex
  exact se_call (pe_call h1 (hr.mono hk) hg h2 h3 h4 .nil pass0 ha hdb he hpl) c.len
end
end Q
namespace Q
open PySem L2
/-! ### the end of a law -/
theorem df_mk {K : PySem.W.Frag} {h : Heap} {mg : Str → Option Value} {x : Str} {st : Stmt} {f : Addr} {oc : Value} {od an : Option Addr} {osl : Array (Option Value)} {kV doc pm cdv ct : Value} (X : K.In h) (G : h.Ns mainGlobals mg)
    (a : PySem.W.nsIn K mainGlobals x = some (some (.ref f))) (l : K.lookup f = some ⟨oc, od, .func (PySem.W.fnOf x x (defArgs st) (defBody st) (defScope st) .none kV doc pm an cdv ct), osl⟩) (c : PySem.W.codeIn K cdv x = true) (k : PySem.W.keepIn K (.ref f) = true) : Df K mg x st :=
  ⟨f, _, PySem.W.mg_of X G a, fun_mk (st := st) l c k⟩
theorem law_sp {K : PySem.W.Frag} {F : Fn} (h : ∀ ns : List Int, ns.length ≤ 63 → ∃ m', F [.fl (ns.map .int)] [] = some (.v (.bl true), m')) (H : Hp) (a : Addr) (ns : List Int) (hl : ns.length ≤ 63) (hO : Only H) (hS : SqL K H a (ns.map V.int)) (E : XK) :
    spF K 1 F [.ref a] H (fun v _ => v = .bl true) E := by
  obtain ⟨m', e⟩ := h ns hl
  have fl : FlAt K H a (ns.map V.int) := by
    rcases hS with (q | ⟨o, q⟩) | q
    · rcases hO a with z | ⟨o, xs, z⟩
      · rw [z] at q; cases q
      · rw [z] at q; cases q
    · exact .inl ⟨o, q⟩
    · exact .inr q
  refine ⟨[], [.fl (ns.map .int)], [], .v (.bl true), m', rfl, .cons (.fl fl (RVs.ints ns)) .nil, ⟨by simp, rfl, fun n b hb => by simp at hb⟩, e, fun v ι' H' _ _ ro => ?_⟩
  cases ro
  rfl
theorem okLaw {P : Program} {w : World} {K : PySem.W.Frag} {mg : Str → Option Value} {base : Heap} {x : Str} {st : Stmt} {f : Addr} {fd : FuncData} {N ps : List Str} {k : Nat} {body : S} {np ns : Nat} (F : Fun K x x st f fd) (Sc : FnScope N ps (defScope st)) (hp : ps.length = np) (hn : N.length = ns)
    (h : ∀ (f : Addr) (cdv : Value) (A : Around) (outer : List PySem.Env) (s : Shared) (H : Hp) (E : XK), Room k (A.deeper (PyProof.Rows.envOfC x (defScope st) s.heap.objs.size f cdv)) → SSs (cxOf CX0 P w K mg base N x (defScope st) f cdv A outer s H E).nox (defBody st) body) :
    FnOk P w K mg base CX0 (k + 1) f fd ps (spF K np (fnD np ns body)) := fn_ok F Sc hp hn (h f)
end Q
namespace Q
open PySem L2

/-! ### lists that stand while they are walked -/
def lsrc (x : Out) (m : Mem) : Option Src := match x with
  | .v (.fl a) => some ⟨a, []⟩
  | .v (.ref n) => (match m[n]? with | some (.lst a) => some ⟨a, [(n, .lst a)]⟩ | _ => none)
  | .o (.lst a) => some ⟨a, []⟩
  | _ => none
theorem lsrc_at {K : PySem.W.Frag} {ι : List Addr} {H H0 : Hp} {m : Mem} {x : Out} {v : V} {s : Src} (rm : RM K ι H m) (ro : RO K H0 ι H x v) (h : lsrc x m = some s) :
    ∃ a vs, v = .ref a ∧ SqL K H a vs ∧ RVs K ι H s.items vs ∧ ∀ ι2 H2 m2, Le ι H ι2 H2 → RM K ι2 H2 m2 → chk s.live m2 → ∃ ws, SqL K H2 a ws ∧ RVs K ι2 H2 s.items ws := by
  unfold lsrc at h
  split at h
  · cases h
    cases ro with
    | fl hs r => exact ⟨_, _, rfl, hs.sq, r, fun ι2 H2 m2 l2 rm2 _ => ⟨_, (l2.k.rdF hs).sq, r.mono l2⟩⟩
  · split at h
    · rename_i n _ xs hm; cases h
      cases ro with
      | ref e2 =>
        obtain ⟨a, e3, vs, e4, r⟩ := rm.ob _ _ hm
        rw [e2] at e3; cases e3
        refine ⟨_, vs, rfl, .inl (.inl e4), r, fun ι2 H2 m2 l2 rm2 hc => ?_⟩
        have hm2 : m2[n]? = some (.lst xs) := hc (n, .lst xs) (by simp)
        obtain ⟨a', e5, vs', e6, r'⟩ := rm2.ob _ _ hm2
        rw [l2.ix e2] at e5; cases e5
        exact ⟨vs', .inl (.inl e6), r'⟩
    · cases h
  · cases h
    obtain ⟨p, e2, e3, hi, vs, e4, r⟩ := ro
    subst e2
    exact ⟨_, vs, rfl, .inl (.inl e4), r, fun ι2 H2 m2 l2 rm2 _ => ⟨_, .inl (.inl (l2.keep _ _ e4 (.inr hi))), r.mono l2⟩⟩
  · cases h
/-! ### zip -/
def zipD : List D → List D → List D
  | x :: xs, y :: ys => .par [x, y] :: zipD xs ys
  | _, _ => []
theorem zipD_len : ∀ (xs ys : List D), (zipD xs ys).length = min xs.length ys.length
  | [], _ => by simp [zipD]
  | _ :: _, [] => by simp [zipD]
  | x :: xs, y :: ys => by simp [zipD, zipD_len xs ys]
theorem zipD_get : ∀ {xs ys : List D} {i : Nat} {d : D}, (zipD xs ys)[i]? = some d → ∃ x y, xs[i]? = some x ∧ ys[i]? = some y ∧ d = .par [x, y]
  | [], _, _, _, h => by simp [zipD] at h
  | _ :: _, [], _, _, h => by simp [zipD] at h
  | x :: xs, y :: ys, 0, d, h => by simp [zipD] at h; exact ⟨x, y, rfl, rfl, h.symm⟩
  | x :: xs, y :: ys, i + 1, d, h => by
    obtain ⟨a, b, e1, e2, e3⟩ := zipD_get (xs := xs) (ys := ys) (i := i) (d := d) (by simpa [zipD] using h)
    exact ⟨a, b, by simpa using e1, by simpa using e2, e3⟩
def zipOf (x y : Out) (m : Mem) : Option Src := match x, y with
  | .v (.tup a), .v (.tup b) => some ⟨zipD a b, []⟩
  | x, y => (lsrc x m).bind fun s => (lsrc y m).bind fun t => some ⟨zipD s.items t.items, s.live ++ t.live⟩
@[simp] def iZip (a b : E) (ρ : Env) (m : Mem) : Option (Src × Mem) := (a ρ m).bind fun x => (b ρ x.2).bind fun y => (zipOf x.1 y.1 y.2).bind fun s => some (s, y.2)
theorem chk_app {l1 l2 : List (Nat × Ob)} {m : Mem} (h : chk (l1 ++ l2) m) : chk l1 m ∧ chk l2 m := ⟨fun p hp => h p (List.mem_append_left _ hp), fun p hp => h p (List.mem_append_right _ hp)⟩
theorem si_zip {X : Cx} {tg e : Expr} {fa fb : E} (h : PI X tg e (RZ.iZipA X.K (tCons (tE X.K fa) (tCons (tE X.K fb) tNil)))) : SI X tg e (iZip fa fb) := pi_imp h fun σ H R ⟨ι, ρ, m, s, m', rs, rm, hf, k⟩ => by
  obtain ⟨x, h1, hf⟩ := bind_some hf
  obtain ⟨y, h2, hf⟩ := bind_some hf
  obtain ⟨s', h3, hf⟩ := bind_some hf
  cases hf
  refine ⟨ι, ρ, m, x.1, x.2, rs, rm, h1, fun v ι1 H1 l1 rm1 ro1 bd1 => ?_⟩
  refine ⟨ι1, ρ, x.2, y.1, y.2, rs.mono l1, rm1, h2, fun u ι2 H2 l2 rm2 ro2 bd2 => ?_⟩
  have ro1 := ro1.mono l2
  unfold zipOf at h3
  split at h3
  · rename_i a b e1 e2; cases h3
    rw [e1] at ro1
    rw [e2] at ro2
    cases ro1 with
    | tup hs r =>
      cases ro2 with
      | tup hs2 r2 =>
        refine ⟨_, _, _, _, rfl, .inr ⟨hs.sq, hs2.sq, fun bd => k _ ι2 H2 (l1.tr rm1 l2) rm2 ?_ bd ?_⟩⟩
        · intro ι3 H3 m3 i l3 rm3 _
          have hs' := (l3.k.rdT hs).sq
          have hs2' := (l3.k.rdT hs2).sq
          have r' := r.mono l3
          have r2' := r2.mono l3
          refine ⟨fun hl => ⟨_, _, hs', hs2', ?_⟩, fun d hd => ?_⟩
          · rw [show (⟨zipD a b, []⟩ : Src).items = zipD a b from rfl, zipD_len] at hl
            rw [← r.length, ← r2.length]; omega
          · obtain ⟨d1, d2, g1, g2, rfl⟩ := zipD_get hd
            obtain ⟨v1, w1, q1⟩ := r'.get g1
            obtain ⟨v2, w2, q2⟩ := r2'.get g2
            refine ⟨⟨_, _, v1, v2, hs', hs2', w1, w2⟩, fun z H4 hy => ?_⟩
            obtain ⟨T, z1, z2, rfl, hT, rfl, y1, y2⟩ := hy
            have y1 := y1 _ hs'
            have y2 := y2 _ hs2'
            rw [w1] at y1; cases y1
            rw [w2] at y2; cases y2
            exact ⟨Le.newAt hT, rm3.newAt hT, new_par hT (.cons q1 (.cons q2 .nil))⟩
        · show (zipD a b).length ≤ _
          rw [zipD_len]
          have := bd2 _ _ (.inr hs.sq)
          rw [← r.length] at this
          omega
  · obtain ⟨s1, h4, h3⟩ := bind_some h3
    obtain ⟨s2, h5, h3⟩ := bind_some h3
    cases h3
    obtain ⟨a1, vs1, rfl, q1, r1, k1⟩ := lsrc_at (m := y.2) rm2 ro1 h4
    obtain ⟨a2, vs2, rfl, q2, r2, k2⟩ := lsrc_at rm2 ro2 h5
    refine ⟨_, _, _, _, rfl, .inl ⟨q1, q2, fun bd => k _ ι2 H2 (l1.tr rm1 l2) rm2 ?_ bd ?_⟩⟩
    · intro ι3 H3 m3 i l3 rm3 hc
      obtain ⟨hc1, hc2⟩ := chk_app hc
      obtain ⟨w1, hs', r'⟩ := k1 ι3 H3 m3 l3 rm3 hc1
      obtain ⟨w2, hs2', r2'⟩ := k2 ι3 H3 m3 l3 rm3 hc2
      refine ⟨fun hl => ⟨_, _, hs', hs2', ?_⟩, fun d hd => ?_⟩
      · rw [show (⟨zipD s1.items s2.items, s1.live ++ s2.live⟩ : Src).items = zipD s1.items s2.items from rfl, zipD_len] at hl
        rw [← r'.length, ← r2'.length]; omega
      · obtain ⟨d1, d2, g1, g2, rfl⟩ := zipD_get hd
        obtain ⟨v1, w1, q1⟩ := r'.get g1
        obtain ⟨v2, w2, q2⟩ := r2'.get g2
        refine ⟨⟨_, _, v1, v2, hs', hs2', w1, w2⟩, fun z H4 hy => ?_⟩
        obtain ⟨T, z1, z2, rfl, hT, rfl, y1, y2⟩ := hy
        have y1 := y1 _ hs'
        have y2 := y2 _ hs2'
        rw [w1] at y1; cases y1
        rw [w2] at y2; cases y2
        exact ⟨Le.newAt hT, rm3.newAt hT, new_par hT (.cons q1 (.cons q2 .nil))⟩
    · show (zipD s1.items s2.items).length ≤ _
      rw [zipD_len]
      have := bd2 _ _ (.inl q1)
      rw [← r1.length] at this
      omega


/-! ### range as a thing -/
@[simp] noncomputable def eRg1 (mk : List D → Out) (a : E) (ρ : Env) (m : Mem) : Option (Out × Mem) := (a ρ m).bind fun x => match x.1 with
  | .v (.int j) => if rgOk j then some (mk (upto 0 j.toNat), x.2) else none
  | _ => none
@[simp] noncomputable def eRg2 (mk : List D → Out) (a b : E) (ρ : Env) (m : Mem) : Option (Out × Mem) := (a ρ m).bind fun x => (b ρ x.2).bind fun y => match x.1, y.1 with
  | .v (.int i), .v (.int j) => if rg2Ok i j then some (mk (upto i (j - i).toNat), y.2) else none
  | _, _ => none
def mkL (xs : List D) : Out := .o (.lst xs)
def mkT (xs : List D) : Out := .v (.tup xs)
theorem RVs.upto {K : PySem.W.Frag} {ι : List Addr} {H : Hp} (i j : Int) : RVs K ι H (upto i (j - i).toNat) (rgV i j) := by
  unfold Q.upto rgV
  induction (List.range (j - i).toNat) with
  | nil => exact .nil
  | cons a r ih => exact .cons (.int _) ih
theorem rgOk1 {j : Int} (h : rgOk j) : RgOk 0 j := by
  obtain ⟨h1, h2⟩ := h
  exact ⟨by omega, by omega, by omega, by omega, by omega⟩
theorem rgOk2 {i j : Int} (h : rg2Ok i j) : RgOk i j := by
  obtain ⟨h1, h2, h3, h4, h5⟩ := h
  exact ⟨by omega, by omega, by omega, by omega, by omega⟩
section
variable {X : Cx} {e : Expr} {fa fb : E}
theorem se_lrg1 (h0 : PE X e (tLstRg (tRg1 (tE X.K fa)))) : SE X e (eRg1 mkL fa) := pe_imp h0 fun σ H Q ⟨ι, ρ, m, z, m', rs, rm, hf, k⟩ => by
  obtain ⟨x, h1, hf⟩ := bind_some hf
  split at hf
  · rename_i j e1
    split at hf
    · rename_i hj; cases hf
      refine ⟨ι, ρ, m, x.1, x.2, rs, rm, h1, fun v ι1 H1 l1 rm1 ro1 bd1 => ?_⟩
      rw [e1] at ro1; cases ro1
      have r : RVs X.K ι1 H1 _ _ := RVs.upto 0 j
      rw [Int.sub_zero] at r
      exact ⟨_, rfl, rgOk1 hj, fun q hq bd => k _ ι1 _ (l1.tr rm1 (Le.newAt hq)) (rm1.newAt hq) ((new_lst rm1 hq r).from l1 rm1) bd⟩
    · cases hf
  · cases hf
theorem se_trg1 (h0 : PE X e (tTupRgN (tRg1 (tE X.K fa)))) : SE X e (eRg1 mkT fa) := pe_imp h0 fun σ H Q ⟨ι, ρ, m, z, m', rs, rm, hf, k⟩ => by
  obtain ⟨x, h1, hf⟩ := bind_some hf
  split at hf
  · rename_i j e1
    split at hf
    · rename_i hj; cases hf
      refine ⟨ι, ρ, m, x.1, x.2, rs, rm, h1, fun v ι1 H1 l1 rm1 ro1 bd1 => ?_⟩
      rw [e1] at ro1; cases ro1
      have r : RVs X.K ι1 H1 _ _ := RVs.upto 0 j
      rw [Int.sub_zero] at r
      exact ⟨_, rfl, rgOk1 hj, fun q o hq ho bd => k _ ι1 _ (l1.tr rm1 (Le.newAt hq)) (rm1.newAt hq) (new_tup hq ho r) bd⟩
    · cases hf
  · cases hf
theorem se_lrg2 (h0 : PE X e (tLstRg (tRg2 (tE X.K fa) (tE X.K fb)))) : SE X e (eRg2 mkL fa fb) := pe_imp h0 fun σ H Q ⟨ι, ρ, m, z, m', rs, rm, hf, k⟩ => by
  obtain ⟨x, h1, hf⟩ := bind_some hf
  obtain ⟨y, h2, hf⟩ := bind_some hf
  split at hf
  · rename_i i j e1 e2
    split at hf
    · rename_i hj; cases hf
      refine ⟨ι, ρ, m, x.1, x.2, rs, rm, h1, fun v ι1 H1 l1 rm1 ro1 bd1 => ?_⟩
      refine ⟨ι1, ρ, x.2, y.1, y.2, rs.mono l1, rm1, h2, fun u ι2 H2 l2 rm2 ro2 bd2 => ?_⟩
      rw [e1] at ro1; cases ro1
      rw [e2] at ro2; cases ro2
      exact ⟨_, _, rfl, rfl, rgOk2 hj, fun q hq bd => k _ ι2 _ (l1.tr rm1 (l2.tr rm2 (Le.newAt hq))) (rm2.newAt hq) ((new_lst rm2 hq (RVs.upto i j)).from (l1.tr rm1 l2) rm2) bd⟩
    · cases hf
  · cases hf
theorem se_trg2 (h0 : PE X e (tTupRgN (tRg2 (tE X.K fa) (tE X.K fb)))) : SE X e (eRg2 mkT fa fb) := pe_imp h0 fun σ H Q ⟨ι, ρ, m, z, m', rs, rm, hf, k⟩ => by
  obtain ⟨x, h1, hf⟩ := bind_some hf
  obtain ⟨y, h2, hf⟩ := bind_some hf
  split at hf
  · rename_i i j e1 e2
    split at hf
    · rename_i hj; cases hf
      refine ⟨ι, ρ, m, x.1, x.2, rs, rm, h1, fun v ι1 H1 l1 rm1 ro1 bd1 => ?_⟩
      refine ⟨ι1, ρ, x.2, y.1, y.2, rs.mono l1, rm1, h2, fun u ι2 H2 l2 rm2 ro2 bd2 => ?_⟩
      rw [e1] at ro1; cases ro1
      rw [e2] at ro2; cases ro2
      exact ⟨_, _, rfl, rfl, rgOk2 hj, fun q o hq ho bd => k _ ι2 _ (l1.tr rm1 (l2.tr rm2 (Le.newAt hq))) (rm2.newAt hq) (new_tup hq ho (RVs.upto i j)) bd⟩
    · cases hf
  · cases hf
end
end Q
namespace Q
open PySem L2
/-! ### enumerate of a tuple -/
theorem meets_enumB1 {v : Value} {o : Obj} {H : Heap → Prop} (B : Begins v o H) :
    Meets (Builtin.«enumerate.__new__» ⟨[.type "enumerate", v], []⟩) (fun _ R s => H s.heap ∧
      R (.ok (.ret (.ref (s.heap.push o).objs.size))) { s with heap := (s.heap.push o).push { cls := .type "enumerate", data := .fields #[.none, .bool false, .ref s.heap.objs.size, rawInt 0, .none, .none] } }) :=
  .of_wp fun prog w A R s h => by
    obtain ⟨hp, g, d, tk, os⟩ := s; obtain ⟨h1, h⟩ := h
    have hsub := sub_enumerate
    have q1 : ∀ {A' : Around} {E : Value → Shared → Prop} {Q : Value → Shared → Prop}, Q (.ref hp.objs.size) ⟨hp.push o, g, d, tk, os⟩ → wpAny (model prog w) A' (pyIter v) Q E ⟨hp, g, d, tk, os⟩ :=
      fun q => B.iter prog w _ _ ⟨hp, g, d, tk, os⟩ _ h1 q
    wp_walk using q1
    refine wpAny_stack_any fun st => wpAny_pure ?_
    split
    · rename_i c _ _ _ _ _
      cases (c == Value.type "enumerate")
      · wp_walk using q1
        exact ⟨_, rfl, h⟩
      · wp_walk using q1
        exact ⟨_, rfl, h⟩
    · wp_walk using q1
      exact ⟨_, rfl, h⟩
theorem call_enumB1 {prog : Program} {w : World} {A : Around} {E : Value → Shared → Prop} {s : Shared} {v : Value} {o : Obj} {H : Heap → Prop} {Q : Value → Shared → Prop} (B : Begins v o H) (h1 : H s.heap)
    (h : ∀ h', IsEnum h' (s.heap.objs.size + 1) s.heap.objs.size 0 .none → h'.get? s.heap.objs.size = some o → h'.objs.size = s.heap.objs.size + 2 →
      (∀ b o, s.heap.get? b = some o → h'.get? b = some o) → Q (.ref (s.heap.objs.size + 1)) { s with heap := h' }) :
    wpAny (model prog w) A (call (.type "enumerate") [v]) Q E s := by
  refine callType_new F.called_enumerate (by decide) (F.typeCall_enumerate_1 _) (F.newCall_enumerate_1 _) (fun obj => F.args_object_init_2 obj _) F.entry_enumerate_new
    (meets_enumB1 B) ⟨h1, ?_⟩
  have hz : (s.heap.push o).objs.size = s.heap.objs.size + 1 := Heap.size_push ..
  show _ ∧ _
  rw [hz]
  have he : IsEnum ((s.heap.push o).push { cls := .type "enumerate", data := .fields #[.none, .bool false, .ref s.heap.objs.size, rawInt 0, .none, .none] }) (s.heap.objs.size + 1) s.heap.objs.size 0 .none := by
    have := Heap.get?_push_size (s.heap.push o) (o := { cls := .type "enumerate", data := .fields #[.none, .bool false, .ref s.heap.objs.size, rawInt 0, .none, .none] }) rfl
    rw [hz] at this; exact this
  refine ⟨⟨_, he, rfl⟩, h _ he (Heap.get?_push_of_some _ (Heap.get?_push_size _ B.free)) (by rw [Heap.size_push, hz]) fun b o x => Heap.get?_push_of_some _ (Heap.get?_push_of_some _ x)⟩
theorem draws_end {prog : Program} {w : World} {A : Around} {it t : Addr} {items : Array Value} {i : Nat} (hh : A.handled = none) (hx : items[i]? = none) :
    Draws prog w A it [it, t] i (fun _ _ => False) (fun j h => j = i ∧ h.IsTupleIter it t i ∧ h.IsTuple t items) where
  live := fun _ _ st => let ⟨o, ho, _⟩ := st.2.1; ⟨o, ho⟩
  frame := fun _ _ _ st hk => ⟨st.1, st.2.1.at fun o e => hk it (by simp) o e, st.2.2.at fun o e => hk t (by simp) o e⟩
  item := fun j s Q E hi st hQ => absurd st.1 (Nat.ne_of_lt hi)
  done := fun s Q E st hE => wpAny_nextOf_tuple_end hh st.2.1 st.2.2 hx hE
/-- the tuple at a, each item in a new pair -/
def IteT (K : PySem.W.Frag) (a : Addr) : It :=
  ⟨fun i H => ∃ (xs : List V) (x : V), SqT K H a xs ∧ xs[i]? = some x, fun i H v H' => ∃ T x, v = .ref T ∧ H T = none ∧ H' = upd H T (.tup [.int (i : Nat), x]) ∧ ∀ xs, SqT K H a xs → xs[i]? = some x, fun i H => ∃ xs : List V, SqT K H a xs ∧ xs.length ≤ i⟩
theorem turn_enumT {P : Program} {w : World} {K : PySem.W.Frag} {elts : List Expr} {kk : Nat} {tpos : Pos} (a e it : Addr) :
    Turn P w K (.Tuple elts kk tpos) (IteT K a) [e, it] e (fun i h => (∃ old, IsEnum h e it ((i : Nat) : Int) old) ∧ h.IsTupleIter it a i ∧ e ≠ it ∧ a ≠ it ∧ e ≠ a) where
  mem := by simp
  obj := fun i h st b hb => by
    obtain ⟨⟨old, he⟩, ⟨o, ho, hc, hd⟩, _⟩ := st
    have e' : b = e ∨ b = it := by simpa using hb
    rcases e' with z | z
    · rw [z]; exact ⟨_, he, fun v q => nomatch q⟩
    · rw [z]; exact ⟨o, ho, fun v q => by rw [hd] at q; cases q⟩
  keep := fun i h h' st k => let ⟨⟨old, he⟩, hi, hne⟩ := st; ⟨⟨old, k e (by simp) _ he⟩, hi.at fun o q => k it (by simp) o q, hne⟩
  item := by
    intro X hP hw hK hc i pins s σ H E I hf st hg
    subst hP hw hK
    obtain ⟨⟨old, he⟩, hit, hne, hai, hea⟩ := st
    obtain ⟨xs, x, hq, hx⟩ := hg
    obtain ⟨its, rv, p, hz⟩ := I.tuple hq
    obtain ⟨u, hu, ru⟩ := rv.get hx
    have hel : e < s.heap.objs.size := Heap.lt_size he
    have hil : it < s.heap.objs.size := by obtain ⟨_, q, _⟩ := hit; exact Heap.lt_size q
    have hlt : i < its.toArray.size := by
      rw [List.size_toArray]
      exact (List.getElem?_eq_some_iff.mp hu).1
    have hA : X.A.in1.handled = none := by
      have := I.ok.hd hc
      simp [this]
    refine wpAny_pyNext_enum_itemD (Draws.tuple (items := its.toArray) hA it a hai) he ⟨hit, p⟩ hlt hne (by simp; exact ⟨hne, hea⟩) fun y h' tk hP ho hst' hT hsz hk => ?_
    have ey : y = u := by
      have : its.toArray[i]? = some u := by simpa using hu
      rw [this] at hP
      exact (Option.some.inj hP).symm
    subst ey
    have hit' := hst'.1
    refine ⟨_, rfl, wpAny_letOwnedTupleGo_enum (s := { s with heap := h', toks := tk + 1 }) ho fun h'' he' sb => ?_⟩
    have hT2 : h''.get? s.heap.objs.size = some { cls := .type "tuple", data := .seq #[.int i tk, y] } := (sb.2 _ (Nat.ne_of_gt hel)).trans hT
    have new : ObjOk X.prog X.w (upd H s.heap.objs.size (.tup [.int (i : Nat), x])) h'' s.heap.objs.size (.tup [.int (i : Nat), x]) :=
      ⟨by show 2 ≤ sizeLine; decide, [.int i tk, y], .cons ⟨_, rfl⟩ (.cons ru .nil), ⟨_, hT2, rfl, _, rfl⟩⟩
    have I1 : Inv X pins σ (upd H s.heap.objs.size (.tup [.int (i : Nat), x])) { s with heap := h'', toks := tk + 1 } :=
      I.turnedNew (ch := [e, it]) (fun b ob hb q => (sb.2 b (fun z => hb (by simp [z]))).trans (hk b ob (fun z => hb (by simp [z])) (fun z => hb (by simp [z])) q)) hf (Nat.le_refl _) new
    refine ⟨.ref s.heap.objs.size, _, I1, rfl, ⟨_, x, rfl, I.hok.fresh (Nat.le_refl _), rfl, fun ys hy => by rw [I.tuple_inj hy hq]; exact hx⟩, ⟨⟨y, ?_⟩, hit'.at fun o q => (sb.2 it (Ne.symm hne)).trans q, hne, hai, hea⟩, fun b hb => ?_⟩
    · have e1 : ((i + 1 : Nat) : Int) = (i : Int) + 1 := by omega
      rw [e1]; exact he'
    · have hb' : b < s.heap.objs.size := by
        have e' : b = e ∨ b = it := by simpa using hb
        rcases e' with z | z
        · rw [z]; exact hel
        · rw [z]; exact hil
      rw [upd_ne (Nat.ne_of_lt hb')]
      exact (hf b hb).1
  done := by
    intro X hP hw hK hc i pins s σ H E I hf st hg
    subst hP hw hK
    obtain ⟨⟨old, he⟩, hit, hne, hai, hea⟩ := st
    obtain ⟨xs, hq, hx⟩ := hg
    obtain ⟨its, rv, p, hz⟩ := I.tuple hq
    obtain ⟨f0, f1, f2, f3, f4, f5⟩ := hf it (by simp)
    have hl := rv.length
    have hA : X.A.in1.handled = none := by
      have := I.ok.hd hc
      simp [this]
    have hi : its.toArray[i]? = none := by simp; omega
    refine wpAny_pyNext_enum_endD (draws_end hA hi) he ⟨rfl, hit, p⟩ fun h' eb => ⟨rfl, I.turned (t' := s.toks) (fun b o hb q => eb b o hb q) f0 f1 f3 f4 f5⟩
  self := fun A i s Q E st h => let ⟨⟨_, he⟩, _⟩ := st; wpAny_pyIter_enum he h
def iEnumT (K : PySem.W.Frag) (ta : TA) : TI := fun σ H R => ta σ H fun vs H1 => ∃ a xs, vs = [.ref a] ∧ SqT K H1 a xs ∧ R (IteT K a) H1
theorem pi_enumT {X : Cx} {e : Expr} {ta : TA} {p pos tpos : Pos} {elts : List Expr} {kk : Nat} (hg : Gl X "enumerate") (hm : X.mg "enumerate" = none) (ha : PA X [e] ta) (hs : starEach [e] X.env = [(false, eval e X.env)] := by rfl) :
    PI X (.Tuple elts kk tpos) (.Call (.Name "enumerate" p) [e] [] pos) (iEnumT X.K ta) := by
  refine ⟨fun pins s σ H R I h => ?_⟩
  refine PyProof.Rows.Call_ (ld_blt I hg hm PyProof.Rows.boot_enumerate (PyProof.Rows.callWith_type1 (thn (ha.run pos pins s σ H _ I h) fun us s1 ⟨vs, H1, I1, r1, q1⟩ => ?_) hs rfl))
  obtain ⟨a, xs, ex, hq, q⟩ := q1
  subst ex
  cases r1 with
  | cons r rr =>
    cases rr
    cases r
    obtain ⟨its, rv, p', hz⟩ := I1.tuple hq
    have hal : a < s1.heap.objs.size := by obtain ⟨o, ho, _⟩ := p'; exact Heap.lt_size ho
    refine call_enumB1 (begins_tuple a its.toArray) p' fun h' he hit hsz hk => wpAny_pyIter_enum he ?_
    have I2 : Inv X pins σ H1 { s1 with heap := h' } := I1.kept (t' := s1.toks) hk
    refine ⟨s1.heap.objs.size + 1, [s1.heap.objs.size + 1, s1.heap.objs.size], _, _, H1, rfl, I2, turn_enumT a (s1.heap.objs.size + 1) s1.heap.objs.size, ⟨⟨.none, he⟩, ⟨_, hit, rfl, rfl⟩, Nat.succ_ne_self _, Nat.ne_of_lt hal, Nat.ne_of_gt (Nat.lt_succ_of_lt hal)⟩, fun b hb => ?_, q⟩
    have e' : b = s1.heap.objs.size + 1 ∨ b = s1.heap.objs.size := by simpa using hb
    have hle : s1.heap.objs.size ≤ b := by
      rcases e' with z | z
      · rw [z]; exact Nat.le_add_right _ _
      · rw [z]; exact Nat.le_refl _
    exact I1.fpOk hle (I1.hok.fresh hle)
/-! ### enumerate as a walk -/
def enumD : Nat → List D → List D
  | _, [] => []
  | i, x :: xs => .par [.int (i : Nat), x] :: enumD (i + 1) xs
theorem enumD_len : ∀ (i : Nat) (xs : List D), (enumD i xs).length = xs.length
  | _, [] => rfl
  | i, x :: xs => by simp [enumD, enumD_len (i + 1) xs]
theorem enumD_get : ∀ {k : Nat} {xs : List D} {i : Nat} {d : D}, (enumD k xs)[i]? = some d → ∃ x, xs[i]? = some x ∧ d = .par [.int ((k + i : Nat) : Int), x]
  | _, [], _, _, h => by simp [enumD] at h
  | k, x :: xs, 0, d, h => by simp [enumD] at h; exact ⟨x, rfl, h.symm⟩
  | k, x :: xs, i + 1, d, h => by
    obtain ⟨a, e1, e3⟩ := enumD_get (k := k + 1) (xs := xs) (i := i) (d := d) (by simpa [enumD] using h)
    refine ⟨a, by simpa using e1, ?_⟩
    rw [e3, show k + 1 + i = k + (i + 1) by omega]
def enumOf (x : Out) (m : Mem) : Option Src := match x with
  | .v (.tup a) => some ⟨enumD 0 a, []⟩
  | x => (lsrc x m).bind fun s => some ⟨enumD 0 s.items, s.live⟩
@[simp] def iEnumE (a : E) (ρ : Env) (m : Mem) : Option (Src × Mem) := (a ρ m).bind fun x => (enumOf x.1 x.2).bind fun s => some (s, x.2)
theorem si_enum {X : Cx} {tg e : Expr} {fa : E} (h : PI X tg e (fun σ H R => iEnum X.K (tCons (tE X.K fa) tNil) σ H R ∨ iEnumT X.K (tCons (tE X.K fa) tNil) σ H R)) : SI X tg e (iEnumE fa) := pi_imp h fun σ H R ⟨ι, ρ, m, s, m', rs, rm, hf, k⟩ => by
  obtain ⟨x, h1, hf⟩ := bind_some hf
  obtain ⟨s', h3, hf⟩ := bind_some hf
  cases hf
  unfold enumOf at h3
  split at h3
  · rename_i a e1; cases h3
    refine .inr ⟨ι, ρ, m, x.1, x.2, rs, rm, h1, fun v ι1 H1 l1 rm1 ro1 bd1 => ?_⟩
    rw [e1] at ro1
    cases ro1 with
    | tup hs r =>
      refine ⟨_, _, rfl, hs.sq, fun bd => k _ ι1 H1 l1 rm1 ?_ bd ?_⟩
      · intro ι3 H3 m3 i l3 rm3 _
        have hs' := (l3.k.rdT hs).sq
        have r' := r.mono l3
        refine ⟨fun hl => ?_, fun d hd => ?_⟩
        · refine ⟨_, hs', ?_⟩
          rw [show (⟨enumD 0 a, []⟩ : Src).items = enumD 0 a from rfl, enumD_len] at hl
          rw [← r'.length]; exact hl
        · obtain ⟨d1, g1, rfl⟩ := enumD_get hd
          obtain ⟨v1, w1, q1⟩ := r'.get g1
          refine ⟨⟨_, v1, hs', w1⟩, fun z H4 hy => ?_⟩
          obtain ⟨T, z1, rfl, hT, rfl, y1⟩ := hy
          have y1 := y1 _ hs'
          rw [w1] at y1; cases y1
          rw [Nat.zero_add]
          exact ⟨Le.newAt hT, rm3.newAt hT, new_par hT (.cons (.int _) (.cons q1 .nil))⟩
      · show (enumD 0 a).length ≤ _
        rw [enumD_len, r.length]
        exact bd1 _ _ (.inr hs.sq)
  · obtain ⟨s1, h4, h3⟩ := bind_some h3
    cases h3
    refine .inl ⟨ι, ρ, m, x.1, x.2, rs, rm, h1, fun v ι1 H1 l1 rm1 ro1 bd1 => ?_⟩
    obtain ⟨a1, vs1, rfl, q1, r1, k1⟩ := lsrc_at rm1 ro1 h4
    refine ⟨_, _, rfl, q1, fun bd => k _ ι1 H1 l1 rm1 ?_ bd ?_⟩
    · intro ι3 H3 m3 i l3 rm3 hc
      obtain ⟨w1, hs', r'⟩ := k1 ι3 H3 m3 l3 rm3 hc
      refine ⟨fun hl => ⟨_, hs', ?_⟩, fun d hd => ?_⟩
      · rw [show (⟨enumD 0 s1.items, s1.live⟩ : Src).items = enumD 0 s1.items from rfl, enumD_len] at hl
        rw [← r'.length]; exact hl
      · obtain ⟨d1, g1, rfl⟩ := enumD_get hd
        obtain ⟨v1, w1, q1⟩ := r'.get g1
        refine ⟨⟨_, v1, hs', w1⟩, fun z H4 hy => ?_⟩
        obtain ⟨T, z1, rfl, hT, rfl, y1⟩ := hy
        have y1 := y1 _ hs'
        rw [w1] at y1; cases y1
        rw [Nat.zero_add]
        exact ⟨Le.newAt hT, rm3.newAt hT, new_par hT (.cons (.int _) (.cons q1 .nil))⟩
    · show (enumD 0 s1.items).length ≤ _
      rw [enumD_len, r1.length]
      exact bd1 _ _ (.inl q1)
end Q
namespace Q
open PySem L2
/-! ### x += e, x -= e -/
theorem augI {K : PySem.W.Frag} {g : Int → Int → Int} {f : F2} (hf : ∀ x y m z, f x y m = some z → ∃ i j, x = .v (.int i) ∧ y = .v (.int j) ∧ z = (.v (.int (g i j)), m)) : R2S K (ipI g) f := by
  intro ι H H0 m x y z vx vy m' Q rm bd rx ry h k
  obtain ⟨i, j, rfl, rfl, e⟩ := hf _ _ _ _ h
  cases e; cases rx; cases ry
  exact ⟨_, _, rfl, rfl, k _ ι H (Le.refl _ _) rm (RV.int _)⟩
def augAdd (x y : Out) (m : Mem) : Option (Out × Mem) := match x, y with
  | .v (.int i), .v (.int j) => some (.v (.int (i + j)), m)
  | _, _ => none
def augSub (x y : Out) (m : Mem) : Option (Out × Mem) := match x, y with
  | .v (.int i), .v (.int j) => some (.v (.int (i - j)), m)
  | _, _ => none
theorem augAddU {K : PySem.W.Frag} : R2S K (ipI fun i j => i + j) augAdd := augI fun x y m z h => by
  unfold augAdd at h
  split at h
  · cases h; exact ⟨_, _, rfl, rfl, rfl⟩
  · cases h
theorem augSubU {K : PySem.W.Frag} : R2S K (ipI fun i j => i - j) augSub := augI fun x y m z h => by
  unfold augSub at h
  split at h
  · cases h; exact ⟨_, _, rfl, rfl, rfl⟩
  · cases h
@[simp] theorem augAdd_int (i j : Int) (m : Mem) : augAdd (.v (.int i)) (.v (.int j)) m = some (.v (.int (i + j)), m) := rfl
@[simp] theorem augSub_int (i j : Int) (m : Mem) : augSub (.v (.int i)) (.v (.int j)) m = some (.v (.int (i - j)), m) := rfl
/-! ### walks and ranges, short -/
section
variable {X : Cx} {e a b c : Expr} {es : List Expr} {pos p p2 q tpos : Pos} {fa fb fc : E} {elts : List Expr} {kk : Nat}
theorem zip_ (hm : X.mg "zip" = none) (ha : SE X a fa) (hb : SE X b fb) (hg : Gl X "zip" := by rfl) (hs : starEach [a, b] X.env = (false, eval a X.env) :: starEach [b] X.env := by rfl) (hs2 : starEach [b] X.env = (false, eval b X.env) :: starEach [] X.env := by rfl)
    (hpl : (backTo pos (starEach [b] X.env)).any (·.1) = false := by rfl) : SI X (.Tuple elts kk tpos) (.Call (.Name "zip" p) [a, b] [] pos) (iZip fa fb) := si_zip (RZ.pi_zipA hg hm (pa2 ha hb hs hs2) hs hpl)
theorem enum_ (hm : X.mg "enumerate" = none) (ha : SE X a fa) (hg : Gl X "enumerate" := by rfl) (hs : starEach [a] X.env = [(false, eval a X.env)] := by rfl) : SI X (.Tuple elts kk tpos) (.Call (.Name "enumerate" p) [a] [] pos) (iEnumE fa) :=
  si_enum (pi_or2 (pi_enum hg hm (pa_cons ha pa_nil hs) hs) (pi_enumT hg hm (pa_cons ha pa_nil hs) hs))
theorem lrg1_ (hl : X.mg "list" = none) (hm : X.mg "range" = none) (ha : SE X a fa) (hc : X.calm = true := by rfl) (hgl : Gl X "list" := by rfl) (hg : Gl X "range" := by rfl) (na : starEach [a] X.env = (false, eval a X.env) :: starEach [] X.env := by rfl)
    (ne : starEach [.Call (.Name "range" p) [a] [] pos] X.env = (false, eval (.Call (.Name "range" p) [a] [] pos) X.env) :: starEach [] X.env := by rfl) : SE X (.Call (.Name "list" p2) [.Call (.Name "range" p) [a] [] pos] [] q) (eRg1 mkL fa) := se_lrg1 (pe_listRg hc hgl hl (prg_1 hg hm ha na) ne)
theorem trg1_ (hl : X.mg "tuple" = none) (hm : X.mg "range" = none) (ha : SE X a fa) (hc : X.calm = true := by rfl) (hgl : Gl X "tuple" := by rfl) (hg : Gl X "range" := by rfl) (na : starEach [a] X.env = (false, eval a X.env) :: starEach [] X.env := by rfl)
    (ne : starEach [.Call (.Name "range" p) [a] [] pos] X.env = (false, eval (.Call (.Name "range" p) [a] [] pos) X.env) :: starEach [] X.env := by rfl) : SE X (.Call (.Name "tuple" p2) [.Call (.Name "range" p) [a] [] pos] [] q) (eRg1 mkT fa) := se_trg1 (pe_tupRgN hc hgl hl (prg_1 hg hm ha na) ne)
theorem lrg2_ (hl : X.mg "list" = none) (hm : X.mg "range" = none) (ha : SE X a fa) (hb : SE X b fb) (hc : X.calm = true := by rfl) (hgl : Gl X "list" := by rfl) (hg : Gl X "range" := by rfl) (na : starEach [a, b] X.env = (false, eval a X.env) :: starEach [b] X.env := by rfl)
    (nb : starEach [b] X.env = (false, eval b X.env) :: starEach [] X.env := by rfl) (hpl : (backTo pos (starEach [b] X.env)).any (·.1) = false := by rfl)
    (ne : starEach [.Call (.Name "range" p) [a, b] [] pos] X.env = (false, eval (.Call (.Name "range" p) [a, b] [] pos) X.env) :: starEach [] X.env := by rfl) : SE X (.Call (.Name "list" p2) [.Call (.Name "range" p) [a, b] [] pos] [] q) (eRg2 mkL fa fb) := se_lrg2 (pe_listRg hc hgl hl (prg_2 hg hm ha hb na nb hpl) ne)
theorem trg2_ (hl : X.mg "tuple" = none) (hm : X.mg "range" = none) (ha : SE X a fa) (hb : SE X b fb) (hc : X.calm = true := by rfl) (hgl : Gl X "tuple" := by rfl) (hg : Gl X "range" := by rfl) (na : starEach [a, b] X.env = (false, eval a X.env) :: starEach [b] X.env := by rfl)
    (nb : starEach [b] X.env = (false, eval b X.env) :: starEach [] X.env := by rfl) (hpl : (backTo pos (starEach [b] X.env)).any (·.1) = false := by rfl)
    (ne : starEach [.Call (.Name "range" p) [a, b] [] pos] X.env = (false, eval (.Call (.Name "range" p) [a, b] [] pos) X.env) :: starEach [] X.env := by rfl) : SE X (.Call (.Name "tuple" p2) [.Call (.Name "range" p) [a, b] [] pos] [] q) (eRg2 mkT fa fb) := se_trg2 (pe_tupRgN hc hgl hl (prg_2 hg hm ha hb na nb hpl) ne)
end
/-! ### a def that calls itself -/
theorem ss_none {X : Cx} {sts : List Stmt} : SSs X sts (fun _ _ => none) := ⟨fun pins s σ H D I h => by
  obtain ⟨ι, ρ, m, r, rs, rm, hf, _⟩ := h
  cases hf⟩
end Q

/-! dicts whose keys are any things of None, whole numbers, texts and tuples of such, in the machine's own words -/
namespace DV
open PySem
abbrev NE := NestedKey × Value × Value
def entV (w : World) (x : NE) : DictEntry := ⟨x.1.hash w, x.2.1, x.2.2⟩
def VIs (h : Heap) (k : NestedKey) (v : Value) : Prop := NestedIs h k v ∧ k.depth ≤ 8
def atV (xs : List NE) (k : NestedKey) : Option Value := (xs.find? fun x => decide (x.1 = k)).map (·.2.2)
def putV (k : NestedKey) (v : Value) (x : NE) : NE := if x.1 = k then (x.1, x.2.1, v) else x
def stoV (xs : List NE) (k : NestedKey) (key v : Value) : List NE := if (atV xs k).isSome then xs.map (putV k v) else xs ++ [(k, key, v)]
theorem stoV_new {xs : List NE} {k : NestedKey} (h : atV xs k = none) (a : Value) (v : Value) : stoV xs k a v = xs ++ [(k, a, v)] := by simp [stoV, h]
theorem stoV_old {xs : List NE} {k : NestedKey} {p : Value} (h : atV xs k = some p) (a : Value) (v : Value) : stoV xs k a v = xs.map (putV k v) := by simp [stoV, h]
theorem idx_unique {xs : List NE} (hn : (xs.map (·.1)).Nodup) : ∀ {i j : Nat} {k : NestedKey} {p q : Value × Value}, xs[i]? = some (k, p) → xs[j]? = some (k, q) → i = j := by
  intro i j k p q hi hj
  have hi' : (xs.map (·.1))[i]? = some k := by rw [List.getElem?_map, hi]; rfl
  have hj' : (xs.map (·.1))[j]? = some k := by rw [List.getElem?_map, hj]; rfl
  exact (List.getElem?_inj (List.getElem?_eq_some_iff.mp hi').1 hn).mp (hi'.trans hj'.symm)
theorem at_of_get {xs : List NE} (hn : (xs.map (·.1)).Nodup) {i : Nat} {k : NestedKey} {p : Value × Value} (hx : xs[i]? = some (k, p)) : atV xs k = some p.2 := by
  induction xs generalizing i with
  | nil => simp at hx
  | cons x rest ih =>
    rw [List.map_cons, List.nodup_cons] at hn
    cases i with
    | zero =>
      simp only [List.getElem?_cons_zero, Option.some.injEq] at hx
      subst hx; simp [atV]
    | succ j =>
      simp only [List.getElem?_cons_succ] at hx
      have hmem : k ∈ rest.map (·.1) := List.mem_map.mpr ⟨(k, p), List.mem_of_getElem? hx, rfl⟩
      have hne : ¬ x.1 = k := fun e => hn.1 (e ▸ hmem)
      have := ih hn.2 hx
      simpa [atV, List.find?_cons, hne] using this
theorem at_none {xs : List NE} {k : NestedKey} (h : ∀ (j : Nat) (p : Value × Value), xs[j]? ≠ some (k, p)) : atV xs k = none := by
  have : (xs.find? fun x => decide (x.1 = k)) = none := by
    rw [List.find?_eq_none]
    intro x hx hk
    obtain ⟨j, hj⟩ := List.mem_iff_getElem?.mp hx
    have hk' : x.1 = k := of_decide_eq_true hk
    exact h j x.2 (by rw [hj, ← hk'])
  simp [atV, this]
theorem not_mem_of {xs : List NE} {k : NestedKey} (h : ∀ (j : Nat) (p : Value × Value), xs[j]? ≠ some (k, p)) : k ∉ xs.map (·.1) := by
  intro hm
  obtain ⟨x, hx, rfl⟩ := List.mem_map.mp hm
  obtain ⟨j, hj⟩ := List.mem_iff_getElem?.mp hx
  exact h j x.2 hj
theorem map_put_not (xs : List NE) (k : NestedKey) (v : Value) (hn : k ∉ xs.map (·.1)) : xs.map (putV k v) = xs := by
  induction xs with
  | nil => rfl
  | cons x xs ih =>
    simp only [List.map_cons, List.mem_cons, not_or] at hn ⊢
    rw [putV, if_neg (fun e => hn.1 e.symm), ih hn.2]
theorem keys_put (xs : List NE) (k : NestedKey) (v : Value) : (xs.map (putV k v)).map (·.1) = xs.map (·.1) := by
  induction xs with
  | nil => rfl
  | cons x xs ih =>
    simp only [List.map_cons, ih]
    by_cases hk : x.1 = k <;> simp [putV, hk]
theorem modify_put {β : Type} (f : NE → β) (g : β → β) (k : NestedKey) (v : Value) (hg : ∀ a v₀, g (f (k, a, v₀)) = f (k, a, v)) :
    ∀ {xs : List NE} {j : Nat} {p : Value × Value}, (xs.map (·.1)).Nodup → xs[j]? = some (k, p) → (xs.map f).modify j g = (xs.map (putV k v)).map f := by
  intro xs
  induction xs with
  | nil => intro j p _ hj; simp at hj
  | cons x rest ih =>
    intro j p hn hj
    rw [List.map_cons, List.nodup_cons] at hn
    cases j with
    | zero =>
      simp only [List.getElem?_cons_zero, Option.some.injEq] at hj
      subst hj
      rw [List.map_cons, List.map_cons, map_put_not rest k v hn.1, putV, if_pos rfl, List.map_cons]
      show g (f (k, p)) :: rest.map f = f (k, p.1, v) :: rest.map f
      rw [show (k, p) = (k, p.1, p.2) from rfl, hg]
    | succ j =>
      simp only [List.getElem?_cons_succ] at hj
      have hmem : k ∈ rest.map (·.1) := List.mem_map.mpr ⟨(k, p), List.mem_of_getElem? hj, rfl⟩
      have hne : ¬ x.1 = k := fun e => hn.1 (e ▸ hmem)
      rw [List.map_cons, List.map_cons, putV, if_neg hne, List.map_cons]
      show f x :: (rest.map f).modify j g = f x :: (rest.map (putV k v)).map f
      rw [ih hn.2 hj]
theorem entry_at {w : World} {es : Array DictEntry} {xs : List NE} (he : es.toList = xs.map (entV w)) (j : Nat) : es[j]? = (xs[j]?).map (entV w) := by
  rw [← Array.getElem?_toList, he, List.getElem?_map]
theorem size_of {w : World} {es : Array DictEntry} {xs : List NE} (he : es.toList = xs.map (entV w)) : es.size = xs.length := by
  rw [← Array.length_toList, he, List.length_map]
theorem VIs.keeps {h h' : Heap} {k : NestedKey} {v : Value} {d : Addr} {o : Obj} {es : Array DictEntry} {ep : Nat} (x : VIs h k v) (ho : h.get? d = some o) (hd : o.data = .dict es ep) (hs : Heap.SameBut d h h') : VIs h' k v :=
  ⟨NestedIs.at (fun b ob vs n hb hc => by
    refine (hs.2 b fun e => ?_).trans hb
    subst e
    rw [ho] at hb
    cases hb
    rw [hd] at hc
    cases hc) k _ x.1, x.2⟩
section
variable {prog : Program} {w : World} {A : Around} {E : Value → Shared → Prop} {s : Shared}
theorem tells {key : Value} {k : NestedKey} {stored : List Value} {Q : Bool → Shared → Prop} (hkey : VIs s.heap k key)
    (hst : ∀ v ∈ stored, ∃ k', VIs s.heap k' v) (h : Q false s) : wpAny (model prog w) A (tableMayTell key stored) Q E s := by
  unfold tableMayTell
  split
  · exact wpAny_pure h
  · refine wpAny_bind (quiet_key k _ 8 s hkey.1 hkey.2 A E _ ?_)
    simp only [Bool.not_true, Bool.false_eq_true, if_false]
    refine wpAny_bind ?_
    refine wpAny_forIn_list _ (fun rest r s' => s' = s ∧ r = (none, ()) ∧ ∀ v ∈ rest, ∃ k', VIs s.heap k' v) _ ?_ ?_ _ _ ⟨rfl, rfl, hst⟩
    · rintro x rest r s' ⟨rfl, rfl, hr⟩
      obtain ⟨k', hb⟩ := hr x List.mem_cons_self
      refine wpAny_bind (quiet_key k' _ 8 _ hb.1 hb.2 A E _ ?_)
      simp only [Bool.not_true, Bool.false_eq_true, if_false]
      exact wpAny_pure ⟨rfl, rfl, fun v hv => hr v (List.mem_cons_of_mem _ hv)⟩
    · rintro r s' ⟨rfl, rfl, _⟩
      exact wpAny_pure h
theorem eqb {x y : NestedKey} {a b : Value} {Q : Bool → Shared → Prop} (hu : A.units + 8 < cLine) (hx : VIs s.heap x a) (hy : VIs s.heap y b) (h : Q (decide (x = y)) s) : wpAny (model prog w) A (PySem.eqBool a b) Q E s :=
  eqAt_key x y A s _ _ hx.1 hy.1 (by have := hx.2; have := hy.2; omega) _ _ _ _ (by rw [← NestedKey.decide_eq]; exact h)
theorem hsh {k : NestedKey} {a : Value} {Q : Int → Shared → Prop} (hu : A.units + 8 < cLine) (hx : VIs s.heap k a) (h : Q (k.hash w) { s with toks := s.toks + k.draws }) : wpAny (model prog w) A (PySem.pyHash a) Q E s :=
  pyHash_key _ _ _ _ _ hx.1 (by have := hx.2; omega) h
set_option maxHeartbeats 4000000 in
theorem find {d : Addr} {key : Value} {o : Obj} {es : Array DictEntry} {ep : Nat} {xs : List NE} {k : NestedKey} {Q : Option Nat → Shared → Prop} (hu : A.units + 8 < cLine) (hkey : VIs s.heap k key)
    (ho : s.heap.get? d = some o) (hd : o.data = .dict es ep) (he : es.toList = xs.map (entV w)) (his : ∀ x ∈ xs, VIs s.heap x.1 x.2.1) (hn : (xs.map (·.1)).Nodup)
    (hnone : (∀ (j : Nat) (p : Value × Value), xs[j]? ≠ some (k, p)) → Q none s) (hsome : ∀ (j : Nat) (p : Value × Value), xs[j]? = some (k, p) → Q (some j) s) :
    wpAny (model prog w) A (dictFind d key (k.hash w)) Q E s := by
  have hsz : es.size = xs.length := size_of he
  have haskey : ∀ (j : Nat) (p : Value × Value), xs[j]? = some (k, p) → ((es[j]?.map (·.hash)) == some (k.hash w)) = true := by
    intro j p hj
    rw [entry_at he j, hj]
    simp [entV]
  have hmem : ∀ e ∈ es, ∃ x ∈ xs, e = entV w x := by
    intro e hin
    have : e ∈ xs.map (entV w) := he ▸ Array.mem_toList_iff.mpr hin
    obtain ⟨x, hx, rfl⟩ := List.mem_map.mp this
    exact ⟨x, hx, rfl⟩
  have hst : ∀ v ∈ (placesWithHash es.size (fun i => es[i]?.map (·.hash)) (k.hash w)).filterMap (fun i => es[i]?.map (·.key)), ∃ k', VIs s.heap k' v := by
    intro v hv
    obtain ⟨i, _, hi⟩ := List.mem_filterMap.mp hv
    cases hei : es[i]? with
    | none => rw [hei] at hi; cases hi
    | some e =>
      rw [hei] at hi
      obtain rfl : e.key = v := by simpa using hi
      obtain ⟨x, hx, rfl⟩ := hmem e (Array.mem_of_getElem? hei)
      exact ⟨x.1, his x hx⟩
  -- what is known behind the places up to x
  have later : ∀ (i x : Nat) (rest : List Nat), x :: rest = (List.range' i (es.size - i)).filter (fun i => (es[i]?.map (·.hash)) == some (k.hash w)) → i ≤ es.size →
      i ≤ x ∧ x < es.size ∧ rest = (List.range' (x + 1) (es.size - (x + 1))).filter (fun i => (es[i]?.map (·.hash)) == some (k.hash w)) ∧ ∀ j, i ≤ j → j < x → ∀ p, xs[j]? ≠ some (k, p) := by
    intro i x rest hr hi
    obtain ⟨hix, hxn, hpx, hskip, hrest⟩ := filter_range'_cons _ _ _ _ _ hr.symm
    refine ⟨hix, by omega, by rw [hrest]; congr 2; omega, fun j h1 h2 p hj => ?_⟩
    have := hskip j h1 h2
    rw [haskey j p hj] at this
    exact absurd this (by decide)
  have ending : ∀ i, [] = (List.range' i (es.size - i)).filter (fun i => (es[i]?.map (·.hash)) == some (k.hash w)) → (∀ j, j < i → ∀ p, xs[j]? ≠ some (k, p)) → ∀ (j : Nat) (p : Value × Value), xs[j]? ≠ some (k, p) := by
    intro i hr hno j p hj
    rcases Nat.lt_or_ge j i with h | h
    · exact hno j h p hj
    · have hjl : j < es.size := by
        rw [hsz]
        rcases Nat.lt_or_ge j xs.length with h' | h'
        · exact h'
        · rw [List.getElem?_eq_none h'] at hj; exact nomatch hj
      have := List.filter_eq_nil_iff.mp hr.symm j (List.mem_range'_1.mpr ⟨h, by omega⟩)
      rw [haskey j p hj] at this
      exact absurd rfl this
  have stay : ∀ (x : Nat) (k' : NestedKey) (hit : Option Nat) (q : Value × Value), ¬ k' = k → xs[x]? = some (k', q) → ((hit = none ∧ ∀ j, j < x → ∀ p, xs[j]? ≠ some (k, p)) ∨ ∃ j p, hit = some j ∧ j < x ∧ xs[j]? = some (k, p)) →
      ((hit = none ∧ ∀ j, j < x + 1 → ∀ p, xs[j]? ≠ some (k, p)) ∨ ∃ j p, hit = some j ∧ j < x + 1 ∧ xs[j]? = some (k, p)) := by
    intro x k' hit q hne hkv hHx
    rcases hHx with ⟨h0, hno⟩ | ⟨j, p, h1, hjx, hj⟩
    · refine .inl ⟨h0, fun j hjx p hj => ?_⟩
      rcases Nat.lt_or_ge j x with h | h
      · exact hno j h p hj
      · have hjx' : j = x := by omega
        subst hjx'
        rw [hkv] at hj
        injection hj with hj
        injection hj with hj
        exact hne hj
    · exact .inr ⟨j, p, h1, by omega, hj⟩
  have plain : wpAny (model prog w) A (dictWalkPlain d key (k.hash w) es (placesWithHash es.size (fun i => es[i]?.map (·.hash)) (k.hash w))) Q E s := by
    refine wpAny_bind ?_
    refine wpAny_forIn_list _
      (fun rest b s' => s' = s ∧ b = (none, ()) ∧ ∃ i, rest = (List.range' i (es.size - i)).filter (fun i => (es[i]?.map (·.hash)) == some (k.hash w)) ∧ i ≤ es.size ∧
        ∀ j, j < i → ∀ p, xs[j]? ≠ some (k, p)) _ ?_ ?_ _ _
      ⟨rfl, rfl, 0, by rw [placesWithHash, List.range_eq_range', Nat.sub_zero], Nat.zero_le _, fun _ h => absurd h (Nat.not_lt_zero _)⟩
    · rintro x rest b s' ⟨rfl, rfl, i, hr, hi, hno⟩
      obtain ⟨hix, hlt, hrest, hskip⟩ := later i x rest hr hi
      obtain ⟨⟨k', b, v'⟩, hkv⟩ : ∃ y, xs[x]? = some y := ⟨xs[x]'(by rw [← hsz]; exact hlt), List.getElem?_eq_getElem _⟩
      have hib : VIs s'.heap k' b := his _ (List.mem_of_getElem? hkv)
      have hex : es[x]? = some ⟨k'.hash w, b, v'⟩ := by rw [entry_at he x, hkv]; rfl
      have hnext : ¬ k' = k → ∀ j, j < x + 1 → ∀ p, xs[j]? ≠ some (k, p) := fun hne j hj p hp => by
        rcases Nat.lt_or_ge j i with h | h
        · exact hno j h p hp
        · rcases Nat.lt_or_ge j x with h' | h'
          · exact hskip j h h' p hp
          · have : j = x := by omega
            subst this
            rw [hkv] at hp
            injection hp with hp
            injection hp with hp
            exact hne hp
      rw [hex]
      dsimp only
      by_cases hh : (k'.hash w == k.hash w) = true
      · rw [if_pos hh]
        refine wpAny_bind (wpAny_dictEpoch ho hd (wpAny_bind (eqb (x := k') (y := k) hu hib hkey (wpAny_bind (wpAny_dictEpoch ho hd ?_)))))
        show wpAny _ _ (if (ep != ep) = true then _ else _) _ E _
        rw [if_neg (by simp)]
        by_cases hkk : k' = k
        · rw [decide_eq_true hkk]
          subst hkk
          exact wpAny_bind (wpAny_rule (wpAny_pure (wpAny_pure (hsome x _ hkv))))
        · rw [decide_eq_false hkk]
          exact wpAny_bind (wpAny_rule (wpAny_pure ⟨rfl, rfl, x + 1, hrest, hlt, hnext hkk⟩))
      · rw [if_neg hh]
        refine wpAny_pure ⟨rfl, rfl, x + 1, hrest, hlt, hnext ?_⟩
        intro hkk
        rw [hkk] at hh; simp at hh
    · rintro b s' ⟨rfl, rfl, i, hr, hi, hno⟩
      exact wpAny_pure (hnone (ending i hr hno))
  unfold dictFind
  try with_reducible refine wpAny_holding ?_
  refine wpAny_bind (wpAny_dictEntries ho hd ?_)
  dsimp only
  have hk0 := hkey.1
  by_cases hall : (key :: (placesWithHash es.size (fun i => es[i]?.map (·.hash)) (k.hash w)).filterMap (fun i => es[i]?.map (·.key))).all carriedByValue = true
  · rw [if_pos hall]
    split
    next x t =>
      split
      next hstrs =>
        cases hk0 with
        | text =>
          unfold foundByValue
          have hkk : ∀ (j : Nat) (e : DictEntry), es[j]? = some e → (e.key.isStr x = true ↔ ∃ p, xs[j]? = some (.text x, p)) := by
            intro j e hj
            rw [entry_at he j] at hj
            obtain ⟨⟨k', b, v'⟩, h1, rfl⟩ := Option.map_eq_some_iff.mp hj
            have h2 := his _ (List.mem_of_getElem? h1)
            constructor
            · intro h3
              have h4 : ∃ u, b = .str x u := by
                cases b <;> first | (simp only [entV, Value.isStr] at h3; cases h3; done) | skip
                rename_i y u
                have : y = x := by simpa [entV, Value.isStr] using h3
                exact ⟨u, by rw [this]⟩
              obtain ⟨u, rfl⟩ := h4
              have : k' = .text x := NestedIs.inj _ _ _ h2.1 (.text x u)
              subst this
              exact ⟨_, h1⟩
            · rintro ⟨p, h3⟩
              rw [h1] at h3
              cases h3
              have h4 := h2.1
              cases h4
              simp [entV, Value.isStr]
          cases hf : es.findIdx? (fun e => e.key.isStr x) with
          | none =>
            refine wpAny_pure (hnone fun j p hj => ?_)
            have hlt : j < es.size := by
              rw [hsz]
              rcases Nat.lt_or_ge j xs.length with h' | h'
              · exact h'
              · rw [List.getElem?_eq_none h'] at hj; exact nomatch hj
            have h1 := Array.findIdx?_eq_none_iff.mp hf es[j] (Array.getElem_mem hlt)
            have h2 := (hkk j es[j] (Array.getElem?_eq_getElem hlt)).mpr ⟨p, hj⟩
            simp [h2] at h1
          | some i =>
            obtain ⟨hlt, hi, _⟩ := Array.findIdx?_eq_some_iff_getElem.mp hf
            obtain ⟨p, hp⟩ := (hkk i es[i] (Array.getElem?_eq_getElem hlt)).mp hi
            have hib : VIs s.heap (.text x) p.1 := his _ (List.mem_of_getElem? hp)
            have hex : es[i].key = p.1 := by
              have := entry_at he i
              rw [Array.getElem?_eq_getElem hlt, hp] at this
              have := Option.some.inj this
              rw [this]; rfl
            simp only [Array.getElem?_eq_getElem hlt]
            rw [hex]
            refine wpAny_bind (wpAny_dictEpoch ho hd (wpAny_bind (eqb hu hib hkey (wpAny_bind (wpAny_dictEpoch ho hd ?_)))))
            show wpAny _ _ (if (ep != ep) = true then _ else _) _ E _
            rw [if_neg (by simp), decide_eq_true rfl]
            exact wpAny_bind (wpAny_rule (wpAny_pure (hsome i p hp)))
      next => exact plain
    next => exact plain
  · rw [if_neg hall]
    have hany : ¬ (es.any fun e => e.key == key && e.hash != k.hash w) = true := by
      rw [← Array.any_toList, List.any_eq_true]
      rintro ⟨e, hin, hc⟩
      obtain ⟨x, hx, rfl⟩ := hmem e (Array.mem_toList_iff.mp hin)
      simp only [entV, Bool.and_eq_true, beq_iff_eq, bne_iff_ne, ne_eq] at hc
      obtain ⟨hxa, hne⟩ := hc
      have := his x hx
      rw [hxa] at this
      exact hne (by rw [NestedIs.inj _ _ _ this.1 hkey.1])
    have hstr : (∀ a, key ≠ .ref a) → ¬ (es.all fun e => isExactStrKey e.key) = true := by
      intro hr hs
      refine hall (List.all_eq_true.mpr fun v hv => ?_)
      rcases List.mem_cons.mp hv with rfl | hv
      · cases v <;> first | rfl | exact absurd rfl (hr _)
      · obtain ⟨i, _, hi⟩ := List.mem_filterMap.mp hv
        cases hei : es[i]? with
        | none => rw [hei] at hi; cases hi
        | some e =>
          rw [hei] at hi
          obtain rfl : e.key = v := by simpa using hi
          have h1 := (Array.all_eq_true_iff_forall_mem.mp hs) e (Array.mem_of_getElem? hei)
          cases hq : e.key <;> first | rfl | (rw [hq] at h1; cases h1)
    rw [if_neg hany]
    have hkc : key = .none ∨ (∃ b, key = .bool b) ∨ (∃ i t, key = .int i t) ∨ (∃ x t, key = .str x t) ∨ ∃ a, key = .ref a := by
      cases hk0 with
      | none => exact .inl rfl
      | bool _ => exact .inr (.inl ⟨_, rfl⟩)
      | int _ _ => exact .inr (.inr (.inl ⟨_, _, rfl⟩))
      | text _ _ => exact .inr (.inr (.inr (.inl ⟨_, _, rfl⟩)))
      | tup _ _ _ _ => exact .inr (.inr (.inr (.inr ⟨_, rfl⟩)))
    clear hk0
    by_cases hone : (((placesWithHash es.size (fun i => es[i]?.map (·.hash)) (NestedKey.hash w k)).filterMap (fun i => es[i]?.map (·.key))) == [key]) = true <;>
    (first | rw [if_pos hone] | rw [if_neg hone]) <;>
    rcases hkc with rfl | ⟨b, rfl⟩ | ⟨i, t, rfl⟩ | ⟨x, t, rfl⟩ | ⟨a, rfl⟩ <;> dsimp only <;>
    (try rw [if_neg (hstr (by intro a h; cases h))]) <;>
    (first | refine wpAny_bind (wpAny_pure ?_) | refine wpAny_bind (tells hkey hst ?_)) <;> (
        rw [if_neg (by simp)]
        refine wpAny_bind ?_
        refine wpAny_forIn_list _
          (fun rest b s' => s' = s ∧ ∃ i hit, b = (none, hit) ∧ rest = (List.range' i (es.size - i)).filter (fun i => (es[i]?.map (·.hash)) == some (NestedKey.hash w k)) ∧ i ≤ es.size ∧
            ((hit = none ∧ ∀ j, j < i → ∀ p, xs[j]? ≠ some (k, p)) ∨ ∃ j p, hit = some j ∧ j < i ∧ xs[j]? = some (k, p))) _ ?_ ?_ _ _
          ⟨rfl, 0, none, rfl, by rw [placesWithHash, List.range_eq_range', Nat.sub_zero], Nat.zero_le _, .inl ⟨rfl, fun _ h => absurd h (Nat.not_lt_zero _)⟩⟩
        · rintro x rest b s' ⟨rfl, i, hit, rfl, hr, hi, hH⟩
          obtain ⟨hix, hlt, hrest, hskip⟩ := later i x rest hr hi
          obtain ⟨⟨k', b, v'⟩, hkv⟩ : ∃ y, xs[x]? = some y := ⟨xs[x]'(by rw [← hsz]; exact hlt), List.getElem?_eq_getElem _⟩
          have hib : VIs s'.heap k' b := his _ (List.mem_of_getElem? hkv)
          have hex : es[x]? = some ⟨k'.hash w, b, v'⟩ := by rw [entry_at he x, hkv]; rfl
          have hHx : (hit = none ∧ ∀ j, j < x → ∀ p, xs[j]? ≠ some (k, p)) ∨ ∃ j p, hit = some j ∧ j < x ∧ xs[j]? = some (k, p) := by
            rcases hH with ⟨h0, hno⟩ | ⟨j, p, h1, hji, hj⟩
            · refine .inl ⟨h0, fun j hjx p hj => ?_⟩
              rcases Nat.lt_or_ge j i with h | h
              · exact hno j h p hj
              · exact hskip j h hjx p hj
            · exact .inr ⟨j, p, h1, by omega, hj⟩
          rw [hex]
          dsimp only
          split
          · refine wpAny_bind (wpAny_dictEpoch ho hd (wpAny_bind (eqb (x := k') (y := k) hu hib hkey (wpAny_bind (wpAny_dictEpoch ho hd ?_)))))
            show wpAny _ _ (if (ep != ep) = true then _ else _) _ E _
            rw [if_neg (by simp)]
            by_cases hkk : k' = k
            · rw [decide_eq_true hkk]
              subst hkk
              rcases hHx with ⟨rfl, _⟩ | ⟨j, p, _, hjx, hj⟩
              · first | rw [if_pos rfl] | skip
                simp only [Option.isSome_none, Bool.false_eq_true, if_false]
                first | refine wpAny_bind (wpAny_pure ?_) | skip
                refine wpAny_bind (wpAny_rule ?_)
                split
                · exact wpAny_pure (wpAny_pure (hsome x _ hkv))
                · exact wpAny_pure ⟨rfl, x + 1, some x, rfl, hrest, hlt, .inr ⟨x, _, rfl, Nat.lt_succ_self x, hkv⟩⟩
              · exact absurd (idx_unique hn hj hkv) (by omega)
            · rw [decide_eq_false hkk]
              simp only [Bool.false_eq_true, if_false]
              refine wpAny_bind (wpAny_rule ?_)
              first | rw [if_neg (by simp)] | skip
              have hstay := stay x k' hit ⟨b, v'⟩ hkk hkv hHx
              first
                | exact wpAny_pure ⟨rfl, x + 1, hit, rfl, hrest, hlt, hstay⟩
                | exact wpAny_bind (wpAny_pure (wpAny_pure ⟨rfl, x + 1, hit, rfl, hrest, hlt, hstay⟩))
          · rename_i hh
            refine wpAny_pure ⟨rfl, x + 1, hit, rfl, hrest, hlt, stay x k' hit ⟨b, v'⟩ ?_ hkv hHx⟩
            intro hkk
            rw [hkk] at hh; simp at hh
        · rintro b s' ⟨rfl, i, hit, rfl, hr, hi, hH⟩
          rcases hH with ⟨rfl, hno⟩ | ⟨j, p, rfl, _, hj⟩
          · exact wpAny_pure (hnone (ending i hr hno))
          · exact wpAny_pure (hsome j p hj))
end
end DV
namespace DV
open PySem
def DOk (w : World) (h : Heap) (d : Addr) (es : Array DictEntry) (xs : List NE) : Prop :=
  ∃ o ep, ep = es.size ∧ h.get? d = some o ∧ o.ExactDict ∧ o.data = .dict es ep ∧ es.toList = xs.map (entV w) ∧ (∀ x ∈ xs, VIs h x.1 x.2.1) ∧ (xs.map (·.1)).Nodup
theorem DOk.typeIs {w : World} {s : Shared} {d : Addr} {es : Array DictEntry} {xs : List NE} (hm : DOk w s.heap d es xs) : s.TypeIs (.ref d) "dict" := let ⟨o, _, _, ho, hc, _⟩ := hm; ⟨o, ho, hc.1⟩
theorem DOk.raw {w : World} {h : Heap} {d : Addr} {es : Array DictEntry} {xs : List NE} (hm : DOk w h d es xs) : DT.Raw h d es es.size := let ⟨o, ep, hep, ho, hc, hd, _⟩ := hm; ⟨o, ho, hc, by rw [← hep]; exact hd⟩
theorem DOk.size {w : World} {h : Heap} {d : Addr} {es : Array DictEntry} {xs : List NE} (hm : DOk w h d es xs) : es.size = xs.length := let ⟨o, ep, hep, ho, hc, hd, he, _⟩ := hm; size_of he
section
variable {prog : Program} {w : World} {A : Around} {E : Value → Shared → Prop} {s : Shared} {d : Addr} {es : Array DictEntry} {xs : List NE} {k : NestedKey} {key : Value}
theorem dget {Q : Option Value → Shared → Prop} (hu : A.units + 8 < cLine) (hkey : VIs s.heap k key) (hm : DOk w s.heap d es xs) (h : Q (atV xs k) { s with toks := s.toks + k.draws }) : wpAny (model prog w) A (dictGet d key) Q E s := by
  obtain ⟨o, ep, hep, ho, _, hd, he, his, hn⟩ := hm
  unfold dictGet
  try with_reducible refine wpAny_holding ?_
  refine wpAny_bind (hsh hu hkey (wpAny_bind (find (s := { s with toks := s.toks + k.draws }) hu hkey ho hd he his hn ?_ ?_)))
  · intro hno
    rw [at_none hno] at h
    exact wpAny_pure h
  · intro j p hj
    rw [at_of_get hn hj] at h
    refine wpAny_bind (wpAny_dictEntries (s := { s with toks := s.toks + k.draws }) ho hd ?_)
    rw [entry_at he j, hj]
    exact wpAny_pure h
theorem push_ok {o : Obj} {ep : Nat} {v : Value} (hep : ep = es.size) (hkey : VIs s.heap k key) (ho : s.heap.get? d = some o) (hc : o.ExactDict) (hd : o.data = .dict es ep) (he : es.toList = xs.map (entV w)) (his : ∀ x ∈ xs, VIs s.heap x.1 x.2.1) (hn : (xs.map (·.1)).Nodup)
    (hno : ∀ (j : Nat) (p : Value × Value), xs[j]? ≠ some (k, p)) (h' : Heap) (hs : Heap.SameBut d s.heap h') (hg : h'.get? d = some (o.mapDictKeys fun es => es.push ⟨k.hash w, key, v⟩)) :
    DOk w h' d (es.push ⟨k.hash w, key, v⟩) (stoV xs k key v) := by
  have hnot : k ∉ xs.map (·.1) := not_mem_of hno
  refine ⟨_, ep + 1, by rw [Array.size_push, hep], hg, hc.mapDictKeys _, Obj.data_mapDictKeys hd _, ?_, ?_, ?_⟩
  · rw [stoV_new (at_none hno)]
    simp [he, entV]
  · rw [stoV_new (at_none hno)]
    intro x hx
    rcases List.mem_append.mp hx with hx | hx
    · exact (his x hx).keeps ho hd hs
    · simp only [List.mem_singleton] at hx
      subst hx
      exact hkey.keeps ho hd hs
  · rw [stoV_new (at_none hno)]
    rw [List.map_append, List.nodup_append]
    refine ⟨hn, by simp, ?_⟩
    intro x hx y hy
    simp only [List.map_cons, List.map_nil, List.mem_singleton] at hy
    subst hy
    exact fun e => hnot (e ▸ hx)
theorem dset {v : Value} {Q : Unit → Shared → Prop} (hu : A.units + 8 < cLine) (hkey : VIs s.heap k key) (hm : DOk w s.heap d es xs) (hsz : xs.length < sizeLine)
    (hQ : ∀ h' es', DOk w h' d es' (stoV xs k key v) → Heap.SameBut d s.heap h' → Q () { s with heap := h', toks := s.toks + k.draws }) : wpAny (model prog w) A (dictSet d key v) Q E s := by
  obtain ⟨o, ep, hep, ho, hc, hd, he, his, hn⟩ := hm
  unfold dictSet
  try with_reducible refine wpAny_holding ?_
  refine wpAny_bind (hsh hu hkey ?_)
  unfold dictSetHashed
  try with_reducible refine wpAny_holding ?_
  refine wpAny_bind (find (s := { s with toks := s.toks + k.draws }) hu hkey ho hd he his hn ?_ ?_)
  · intro hno
    refine wpAny_bind (wpAny_rule (wpAny_updateDictKeys (hz := by have e := size_of he; omega) (s := { s with toks := s.toks + k.draws }) ho hd (hQ _ _ (push_ok hep hkey ho hc hd he his hn hno _ (Heap.SameBut.update ..) (Heap.get?_update_self _ ho (Obj.isFreed_of_dict (Obj.data_mapDictKeys hd _)))) (Heap.SameBut.update ..))))
  · intro j p hj
    refine wpAny_bind (wpAny_rule (wpAny_bind (wpAny_updateDict (s := { s with toks := s.toks + k.draws }) ho hd (wpAny_point (hQ _ _ ⟨_, ep, by rw [Array.size_modify, hep], Heap.get?_update_self _ ho (Obj.isFreed_of_dict (Obj.data_mapDict hd _)),
      hc.mapDict _, Obj.data_mapDict hd _, ?_, ?_, ?_⟩ (Heap.SameBut.update ..))))))
    · rw [stoV_old (at_of_get hn hj)]
      have := modify_put (entV w) (fun e : DictEntry => { e with val := v }) k v (fun _ _ => rfl) hn hj
      rw [← he] at this
      obtain ⟨l⟩ := es
      simpa using this
    · rw [stoV_old (at_of_get hn hj)]
      intro x hx
      obtain ⟨y, hy, rfl⟩ := List.mem_map.mp hx
      unfold putV
      split <;> exact (his y hy).keeps ho hd (Heap.SameBut.update ..)
    · rw [stoV_old (at_of_get hn hj)]
      rw [keys_put]; exact hn
theorem dsetd {v : Value} {Q : Value → Shared → Prop} (hu : A.units + 8 < cLine) (hkey : VIs s.heap k key) (hm : DOk w s.heap d es xs) (hsz : xs.length < sizeLine)
    (h1 : ∀ p, atV xs k = some p → Q p { s with toks := s.toks + k.draws })
    (h2 : atV xs k = none → ∀ h' es', DOk w h' d es' (stoV xs k key v) → Heap.SameBut d s.heap h' → Q v { s with heap := h', toks := s.toks + k.draws }) : wpAny (model prog w) A (dictSetDefault d key v) Q E s := by
  obtain ⟨o, ep, hep, ho, hc, hd, he, his, hn⟩ := hm
  unfold dictSetDefault
  try with_reducible refine wpAny_holding ?_
  refine wpAny_bind (hsh hu hkey ?_)
  refine wpAny_bind (find (s := { s with toks := s.toks + k.draws }) hu hkey ho hd he his hn ?_ ?_)
  · intro hno
    refine wpAny_bind (wpAny_rule (wpAny_bind (wpAny_updateDictKeys (hz := by have e := size_of he; omega) (s := { s with toks := s.toks + k.draws }) ho hd (wpAny_pure (h2 (at_none hno) _ _ (push_ok hep hkey ho hc hd he his hn hno _ (Heap.SameBut.update ..) (Heap.get?_update_self _ ho (Obj.isFreed_of_dict (Obj.data_mapDictKeys hd _)))) (Heap.SameBut.update ..))))))
  · intro j p hj
    refine wpAny_bind (wpAny_dictEntries (s := { s with toks := s.toks + k.draws }) ho hd ?_)
    rw [entry_at he j, hj]
    exact wpAny_bind (wpAny_rule (wpAny_pure (h1 p.2 (at_of_get hn hj))))
theorem cont {Q : Bool → Shared → Prop} (hu : A.units + 9 < cLine) (hkey : VIs s.heap k key) (hd : (d == sysModules) = false) (hm : DOk w s.heap d es xs)
    (h : Q (atV xs k).isSome { s with toks := s.toks + k.draws }) : wpAny (model prog w) A (contains (.ref d) key) Q E s := by
  unfold contains
  try with_reducible refine wpAny_holding ?_
  refine wpAny_bind (wpAny_specialOf hm.typeIs slot_dict_contains.lookup ?_)
  show wpAny _ _ (if (some (Value.builtin "dict.__contains__") == some Value.none) = true then _ else _) _ E s
  rw [if_neg (by rw [beq_builtin_none]; exact Bool.false_ne_true)]
  refine wpAny_bind (wpAny_callSpecialUnlessNone?_slot (name := Str.ofString "__contains__") hm.typeIs slot_dict_contains
    (wpAny_call_entry slot_dict_contains hm.typeIs entry_dict_contains ?_ (args_dict_contains _ _)))
  show wpAny _ _ (dictGet d key >>= _) _ _ s
  refine wpAny_bind (dget (show A.in1.units + 8 < cLine from by simp; omega) hkey hm ?_)
  cases hf : atV xs k with
  | some p =>
    rw [hf] at h
    show wpAny _ _ (ret (.bool true)) _ _ _
    exact wpAny_pure ⟨_, rfl, wpAny_truthy_bool h⟩
  | none =>
    rw [hf] at h
    show wpAny _ _ (Builtin.Dict.pendingKey? d key >>= _) _ _ _
    exact wpAny_bind (wpAny_pendingKey_other hd (wpAny_pure ⟨_, rfl, wpAny_truthy_bool h⟩))
theorem dIn {Q : Value → Shared → Prop} (hu : A.units + 9 < cLine) (hkey : VIs s.heap k key) (hd : (d == sysModules) = false) (hm : DOk w s.heap d es xs)
    (h : Q (.bool (atV xs k).isSome) { s with toks := s.toks + k.draws }) : wpAny (model prog w) A (compareOp .In key (.ref d)) Q E s := by
  show wpAny _ _ (do return .bool (← contains (.ref d) key)) Q E s
  exact wpAny_bind (cont hu hkey hd hm (wpAny_pure h))
theorem dNotIn {Q : Value → Shared → Prop} (hu : A.units + 9 < cLine) (hkey : VIs s.heap k key) (hd : (d == sysModules) = false) (hm : DOk w s.heap d es xs)
    (h : Q (.bool (!(atV xs k).isSome)) { s with toks := s.toks + k.draws }) : wpAny (model prog w) A (compareOp .NotIn key (.ref d)) Q E s := by
  show wpAny _ _ (do return .bool (!(← contains (.ref d) key))) Q E s
  exact wpAny_bind (cont hu hkey hd hm (wpAny_pure h))
theorem dItem {p : Value} {Q : Value → Shared → Prop} (hu : A.units + 9 < cLine) (hkey : VIs s.heap k key) (hm : DOk w s.heap d es xs) (hp : atV xs k = some p)
    (h : Q p { s with toks := s.toks + k.draws }) : wpAny (model prog w) A (getItem (.ref d) key) Q E s := by
  unfold getItem
  try with_reducible refine wpAny_holding ?_
  refine wpAny_bind (wpAny_sequenceKey hm.typeIs (by decide) ?_)
  refine wpAny_bind (wpAny_callSpecial?_slot (name := Str.ofString "__getitem__") hm.typeIs slot_dict_getitem
    (wpAny_call_entry slot_dict_getitem hm.typeIs entry_dict_getitem ?_ (args_dict_getitem _ _)))
  show wpAny _ _ (dictGet d key >>= _) _ _ s
  refine wpAny_bind (dget (show A.in1.units + 8 < cLine from by simp; omega) hkey hm ?_)
  rw [hp]
  exact wpAny_pure ⟨p, rfl, wpAny_pure h⟩
theorem dPut {v : Value} {Q : Unit → Shared → Prop} (hu : A.units + 9 < cLine) (hkey : VIs s.heap k key) (hm : DOk w s.heap d es xs) (hsz : xs.length < sizeLine)
    (hQ : ∀ h' es', DOk w h' d es' (stoV xs k key v) → Heap.SameBut d s.heap h' → Q () { s with heap := h', toks := s.toks + k.draws }) : wpAny (model prog w) A (setItem (.ref d) key v) Q E s := by
  unfold setItem
  try with_reducible refine wpAny_holding ?_
  refine wpAny_bind (wpAny_sequenceKey hm.typeIs (by decide) ?_)
  refine wpAny_bind (wpAny_callSpecial?_slot (name := Str.ofString "__setitem__") hm.typeIs slot_dict_setitem
    (wpAny_call_entry slot_dict_setitem hm.typeIs entry_dict_setitem ?_ (args_dict_setitem _ _ _)))
  show wpAny _ _ (Builtin.Dict.notOrdered "__setitem__" ⟨[.ref d, key, v], []⟩ >>= _) _ _ s
  refine wpAny_bind (wpAny_notOrdered_dict hm.typeIs ?_)
  show wpAny _ _ (dictSet d key v >>= _) _ _ s
  exact wpAny_bind (dset (show A.in1.units + 8 < cLine from by simp; omega) hkey hm hsz fun h' es' hm' hs' => wpAny_pure ⟨.none, rfl, wpAny_pure (hQ h' es' hm' hs')⟩)
theorem meets_get1 (hd : (d == sysModules) = false) :
    MeetsIn prog w (Builtin.«dict.get» ⟨[.ref d, key], []⟩) (fun A R s => A.in1.units + 8 < cLine ∧ ∃ k es xs, VIs s.heap k key ∧ DOk w s.heap d es xs ∧ R (.ok (.ret ((atV xs k).getD .none))) { s with toks := s.toks + k.draws }) :=
  .of_wp fun A R s ⟨hu, k, es, xs, hkey, hm, h⟩ => by
    show wpAny _ _ (dictGet d key >>= _) _ _ s
    refine wpAny_bind (dget hu hkey hm ?_)
    cases hf : atV xs k with
    | some v =>
      rw [hf] at h
      exact wpAny_pure ⟨v, rfl, h⟩
    | none =>
      rw [hf] at h
      show wpAny _ _ (Builtin.Dict.missed d key >>= _) _ _ _
      exact wpAny_bind (wpAny_missed_other hd (wpAny_pure ⟨.none, rfl, h⟩))
theorem meets_get2 (hd : (d == sysModules) = false) (dflt : Value) :
    MeetsIn prog w (Builtin.«dict.get» ⟨[.ref d, key, dflt], []⟩) (fun A R s => A.in1.units + 8 < cLine ∧ ∃ k es xs, VIs s.heap k key ∧ DOk w s.heap d es xs ∧ R (.ok (.ret ((atV xs k).getD dflt))) { s with toks := s.toks + k.draws }) :=
  .of_wp fun A R s ⟨hu, k, es, xs, hkey, hm, h⟩ => by
    show wpAny _ _ (dictGet d key >>= _) _ _ s
    refine wpAny_bind (dget hu hkey hm ?_)
    cases hf : atV xs k with
    | some v =>
      rw [hf] at h
      exact wpAny_pure ⟨v, rfl, h⟩
    | none =>
      rw [hf] at h
      show wpAny _ _ (Builtin.Dict.missed d key >>= _) _ _ _
      exact wpAny_bind (wpAny_missed_other hd (wpAny_pure ⟨dflt, rfl, h⟩))
theorem meets_setd (hd : (d == sysModules) = false) (dflt : Value) :
    MeetsIn prog w (Builtin.«dict.setdefault» ⟨[.ref d, key, dflt], []⟩) (fun A R s => A.in1.units + 8 < cLine ∧ ∃ k es xs, VIs s.heap k key ∧ DOk w s.heap d es xs ∧ xs.length < sizeLine ∧
      (∀ p, atV xs k = some p → R (.ok (.ret p)) { s with toks := s.toks + k.draws }) ∧
      (atV xs k = none → ∀ h' es', DOk w h' d es' (stoV xs k key dflt) → Heap.SameBut d s.heap h' → R (.ok (.ret dflt)) { s with heap := h', toks := s.toks + k.draws })) :=
  .of_wp fun A R s ⟨hu, k, es, xs, hkey, hm, hz, h1, h2⟩ => by
    unfold Builtin.«dict.setdefault»
    refine wpAny_bind ?_
    unfold Builtin.Dict.keyAndDefault
    refine wpAny_bind (wpAny_notOrdered_dict hm.typeIs ?_)
    show wpAny _ _ (pure (d, key, some dflt)) _ _ s
    refine wpAny_pure ?_
    show wpAny _ _ (if (d == sysModules) = true then _ else (dictSetDefault d key dflt >>= _)) _ _ s
    rw [if_neg (by rw [hd]; exact Bool.false_ne_true)]
    exact wpAny_bind (dsetd hu hkey hm hz (fun p hp => wpAny_pure ⟨p, rfl, h1 p hp⟩) fun hn h' es' hm' hs' => wpAny_pure ⟨dflt, rfl, h2 hn h' es' hm' hs'⟩)
end
end DV
namespace Q
open PySem L2 DV
/-! ### dicts by their entries: the layer's rules -/
section
variable {X : Cx} {pins : List (Addr × Obj)} {σ : St} {H : Hp} {s : Shared}
mutual
theorem KN.is (I : Inv X pins σ H s) : ∀ {k : NestedKey} {v : V} {u : Value}, KN X.K H k v → RelV v u → NestedIs s.heap k u
  | _, _, _, .non, r => by cases r; exact .none
  | _, _, _, .num i, r => by obtain ⟨t, rfl⟩ := r; exact .int i t
  | _, _, _, .tup h q, r => by
    cases r
    obtain ⟨its, rv, ⟨o, ho, hc, n, hd⟩, _⟩ := I.tuple h.sq
    exact .tup ho hc hd (by simpa using KNs.is I q rv)
theorem KNs.is (I : Inv X pins σ H s) : ∀ {k : List NestedKey} {v : List V} {u : List Value}, KNs X.K H k v → Vals v u → NestedAll s.heap k u
  | _, _, _, .nil, .nil => .nil
  | _, _, _, .cons h q, .cons r t => .cons (KN.is I h r) (KNs.is I q t)
end
mutual
theorem KN.hsh {K : PySem.W.Frag} (w w' : World) : ∀ {k : NestedKey} {v : V}, KN K H k v → k.hash w = k.hash w'
  | _, _, .non => by simp [NestedKey.hash]
  | _, _, .num i => by simp [NestedKey.hash]
  | _, _, .tup h q => by simp [NestedKey.hash, KNs.hsh w w' q]
theorem KNs.hsh {K : PySem.W.Frag} (w w' : World) : ∀ {k : List NestedKey} {v : List V}, KNs K H k v → NestedKey.hashes w k = NestedKey.hashes w' k
  | _, _, .nil => by simp [NestedKey.hashes]
  | _, _, .cons h q => by simp [NestedKey.hashes, KN.hsh w w' h, KNs.hsh w w' q]
end
def look {β : Type} (ks : List (NestedKey × β)) (k : NestedKey) : Option β := (ks.find? fun x => decide (x.1 = k)).map (·.2)
def sto {β : Type} (ks : List (NestedKey × β)) (k : NestedKey) (v : β) : List (NestedKey × β) := if (look ks k).isSome then ks.map (fun x => if x.1 = k then (x.1, v) else x) else ks ++ [(k, v)]
/-- the machine's entries of an entry list -/
theorem ents_of (I : Inv X pins σ H s) {ks : List (NestedKey × V)} {el : List DictEntry} (h : Paired (EntV X.K H) ks el) :
    ∃ xs : List NE, el = xs.map (entV X.w) ∧ xs.map (·.1) = ks.map (·.1) ∧ (∀ x ∈ xs, VIs s.heap x.1 x.2.1) ∧ Paired (fun (p : NestedKey × V) (x : NE) => p.1 = x.1 ∧ (∃ kv, KN X.K H p.1 kv ∧ RelV kv x.2.1) ∧ RelV p.2 x.2.2 ∧ p.1.depth ≤ 8) ks xs := by
  induction h with
  | nil => exact ⟨[], rfl, rfl, by simp, .nil⟩
  | @cons p e ps es h _ ih =>
    obtain ⟨xs, e1, e2, e3, e4⟩ := ih
    obtain ⟨⟨kv, h1, h2⟩, h3, h4, h5⟩ := h
    refine ⟨(p.1, e.key, e.val) :: xs, ?_, by simp [e2], ?_, .cons ⟨rfl, ⟨kv, h1, h2⟩, h4, h5⟩ e4⟩
    · rw [List.map_cons, ← e1]
      congr 1
      cases e
      simp [entV, ← h3 X.w]
    · intro x hx
      rcases List.mem_cons.mp hx with rfl | hx
      · exact ⟨h1.is I h2, h5⟩
      · exact e3 x hx
theorem dok_of (I : Inv X pins σ H s) {a : Addr} {ks : List (NestedKey × V)} (h : RawD X.K H a ks) :
    ∃ es xs, H a = some (RawO a es) ∧ DOk X.w s.heap a es xs ∧ Paired (fun (p : NestedKey × V) (x : NE) => p.1 = x.1 ∧ (∃ kv, KN X.K H p.1 kv ∧ RelV kv x.2.1) ∧ RelV p.2 x.2.2 ∧ p.1.depth ≤ 8) ks xs := by
  obtain ⟨es, h1, h2, h3, h4, h5⟩ := h
  obtain ⟨xs, e1, e2, e3, e4⟩ := ents_of I h2
  obtain ⟨⟨o, ho, hc, hd⟩, _⟩ := (show ObjOk X.prog X.w H s.heap a (RawO a es) from I.hok a _ h1)
  exact ⟨es, xs, h1, ⟨o, es.size, rfl, ho, hc, hd, e1, e3, by rw [e2]; exact h3⟩, e4⟩
theorem look_at {K : PySem.W.Frag} {ks : List (NestedKey × V)} {xs : List NE} {k : NestedKey} (h : Paired (fun (p : NestedKey × V) (x : NE) => p.1 = x.1 ∧ (∃ kv, KN K H p.1 kv ∧ RelV kv x.2.1) ∧ RelV p.2 x.2.2 ∧ p.1.depth ≤ 8) ks xs) :
    (look ks k = none ∧ atV xs k = none) ∨ ∃ v u, look ks k = some v ∧ atV xs k = some u ∧ RelV v u := by
  induction h with
  | nil => exact .inl ⟨rfl, rfl⟩
  | @cons p x ps xs h _ ih =>
    by_cases hk : p.1 = k
    · have hk' : x.1 = k := h.1 ▸ hk
      exact .inr ⟨p.2, x.2.2, by simp [look, hk], by simp [atV, hk'], h.2.2.1⟩
    · have hk' : ¬ x.1 = k := h.1 ▸ hk
      have e1 : look (p :: ps) k = look ps k := by simp [look, hk]
      have e2 : atV (x :: xs) k = atV xs k := by simp [atV, hk']
      rw [e1, e2]
      exact ih
theorem rawO_new {P : Program} {w : World} {h : Heap} {a : Addr} {es : Array DictEntry} {H : Hp} (r : DT.Raw h a es es.size) : ObjOk P w H h a (RawO a es) := by
  obtain ⟨o, ho, q⟩ := r
  exact ⟨⟨o, ho, q⟩, ⟨o, ho⟩, fun h1 h2 p k => p.at' k⟩
/-- behind a store -/
theorem sto_ents {w : World} {K : PySem.W.Frag} {a : Addr} {ks : List (NestedKey × V)} {xs : List NE} {k : NestedKey} {kv v : V} {key u : Value} {h' : Heap} {es' : Array DictEntry}
    (hp : Paired (fun (p : NestedKey × V) (x : NE) => p.1 = x.1 ∧ (∃ kv, KN K H p.1 kv ∧ RelV kv x.2.1) ∧ RelV p.2 x.2.2 ∧ p.1.depth ≤ 8) ks xs) (hk : KN K H k kv) (hr : RelV kv key) (hd : k.depth ≤ 8) (hv : RelV v u) (hm : DOk w h' a es' (stoV xs k key u)) :
    Paired (EntV K H) (sto ks k v) es'.toList := by
  obtain ⟨o, ep, hep, ho, hc, hdd, he, g1, g2⟩ := hm
  rw [he]
  clear g1 g2
  have one : ∀ (p : NestedKey × V) (x : NE), (p.1 = x.1 ∧ (∃ kv, KN K H p.1 kv ∧ RelV kv x.2.1) ∧ RelV p.2 x.2.2 ∧ p.1.depth ≤ 8) → EntV K H p (entV w x) := fun p x ⟨h1, ⟨kv, h2, h3⟩, h4, h5⟩ => by
    refine ⟨⟨kv, h2, h3⟩, fun w' => ?_, h4, h5⟩
    show x.1.hash w = _
    rw [← h1]; exact h2.hsh w w'
  have hl := look_at (k := k) hp
  unfold sto stoV
  rcases hl with ⟨e1, e2⟩ | ⟨v0, u0, e1, e2, _⟩
  · rw [e1, e2]
    simp only [Option.isSome_none, Bool.false_eq_true, if_false, List.map_append, List.map_cons, List.map_nil]
    clear e1 e2 he
    induction hp with
    | nil => exact .cons (one (k, v) (k, key, u) ⟨rfl, ⟨kv, hk, hr⟩, hv, hd⟩) .nil
    | cons h _ ih => exact .cons (one _ _ h) ih
  · rw [e1, e2]
    simp only [Option.isSome_some, if_true]
    clear e1 e2 he
    induction hp with
    | nil => exact .nil
    | @cons p x ps xs h _ ih =>
      refine .cons ?_ ih
      show EntV K H (if p.1 = k then (p.1, v) else p) _
      by_cases hkk : p.1 = k
      · have hkk' : x.1 = k := h.1 ▸ hkk
        rw [if_pos hkk]
        unfold putV
        rw [if_pos hkk']
        exact one (p.1, v) (x.1, x.2.1, u) ⟨h.1, h.2.1, hv, h.2.2.2⟩
      · have hkk' : ¬ x.1 = k := h.1 ▸ hkk
        rw [if_neg hkk]
        unfold putV
        rw [if_neg hkk']
        exact one p x h
theorem sto_keys {β : Type} {ks : List (NestedKey × β)} {k : NestedKey} {v : β} (h : (ks.map (·.1)).Nodup) : ((sto ks k v).map (·.1)).Nodup := by
  unfold sto
  split
  · rw [List.map_map]
    have : ((fun x : NestedKey × β => x.1) ∘ fun x => if x.1 = k then (x.1, v) else x) = fun x => x.1 := by
      funext x
      simp only [Function.comp]
      split <;> rfl
    rw [this]; exact h
  · rename_i hn
    rw [List.map_append, List.nodup_append]
    refine ⟨h, by simp, ?_⟩
    intro x hx y hy
    simp only [List.map_cons, List.map_nil, List.mem_singleton] at hy
    subst hy
    rintro rfl
    obtain ⟨p, hp, rfl⟩ := List.mem_map.mp hx
    apply hn
    unfold look
    rw [Option.isSome_map, List.find?_isSome]
    exact ⟨p, hp, by simp⟩
theorem sto_len {β : Type} (ks : List (NestedKey × β)) (k : NestedKey) (v : β) : (sto ks k v).length ≤ ks.length + 1 := by
  unfold sto
  split <;> simp
/-! the rules -/
def rInR (K : PySem.W.Frag) (neg : Bool) : R2 := fun x y H Q => ∃ a ks k, y = .ref a ∧ RawD K H a ks ∧ KN K H k x ∧ k.depth ≤ 8 ∧ Q (.bl (if neg then !(look ks k).isSome else (look ks k).isSome)) H
theorem op_inR (hu : X.A.units + 65 < cLine) : OpR X (compareOp .In) (rInR X.K false) := by
  intro pins s σ H x y v u Q I rx ry h
  obtain ⟨a, ks, k, rfl, hr, hk, hd, q⟩ := h
  cases ry
  obtain ⟨es, xs, e1, hm, hp⟩ := dok_of I hr
  refine dIn (k := k) (by omega) ⟨hk.is I rx, hd⟩ hr.choose_spec.2.2.2.2 hm ⟨.bl (look ks k).isSome, H, I.tok _, ?_, q⟩
  rcases look_at (k := k) hp with ⟨l1, l2⟩ | ⟨v0, u0, l1, l2, _⟩ <;> (rw [l1, l2]; rfl)
theorem op_notInR (hu : X.A.units + 65 < cLine) : OpR X (compareOp .NotIn) (rInR X.K true) := by
  intro pins s σ H x y v u Q I rx ry h
  obtain ⟨a, ks, k, rfl, hr, hk, hd, q⟩ := h
  cases ry
  obtain ⟨es, xs, e1, hm, hp⟩ := dok_of I hr
  refine dNotIn (k := k) (by omega) ⟨hk.is I rx, hd⟩ hr.choose_spec.2.2.2.2 hm ⟨.bl (!(look ks k).isSome), H, I.tok _, ?_, q⟩
  rcases look_at (k := k) hp with ⟨l1, l2⟩ | ⟨v0, u0, l1, l2, _⟩ <;> (rw [l1, l2]; rfl)
def rIxR (K : PySem.W.Frag) : R2 := fun x y H Q => ∃ a ks k v, x = .ref a ∧ RawD K H a ks ∧ KN K H k y ∧ k.depth ≤ 8 ∧ look ks k = some v ∧ Q v H
theorem ix_raw (hu : X.A.units + 65 < cLine) : IxR X (rIxR X.K) := by
  intro value slice pins s σ H x y v u Q I rx ry h hs
  obtain ⟨a, ks, k, vv, rfl, hr, hk, hd, hl, q⟩ := h
  cases rx
  obtain ⟨es, xs, e1, hm, hp⟩ := dok_of I hr
  rcases look_at (k := k) hp with ⟨l1, l2⟩ | ⟨v0, u0, l1, l2, rr⟩
  · rw [l1] at hl; cases hl
  · rw [l1] at hl; cases hl
    exact PyProof.Rows.subscriptTail_builtinR (x := u0) hm.typeIs slot_dict_getitem.lookup (dItem (k := k) (Q := fun r s' => r = u0 ∧ EP X pins σ Q r s') (by omega) ⟨hk.is I ry, hd⟩ hm l2 ⟨rfl, vv, H, I.tok _, rr, q⟩) hs
def rSetR (K : PySem.W.Frag) : TSet := fun o i v H Q => ∃ a ks k, o = .ref a ∧ RawD K H a ks ∧ KN K H k i ∧ k.depth ≤ 8 ∧ ks.length < sizeLine ∧ ∀ es', Paired (EntV K H) (sto ks k v) es'.toList → Q (upd H a (RawO a es'))
theorem set_raw (hu : X.A.units + 65 < cLine) : PSet X (rSetR X.K) := by
  intro pins s σ H o i v ov iv u Q I ro ri rv h
  obtain ⟨a, ks, k, rfl, hr, hk, hd, hz, q⟩ := h
  cases ro
  obtain ⟨es, xs, e1, hm, hp⟩ := dok_of I hr
  refine dPut (k := k) (by omega) ⟨hk.is I ri, hd⟩ hm (by rw [← Paired.length hp]; exact hz) fun h' es' hm' hs => ?_
  have r' := hm'.raw
  have he : ∃ u, h'.get? a = some u := let ⟨o, ho, _⟩ := r'; ⟨o, ho⟩
  exact ⟨upd H a (RawO a es'), I.write (e := a) (t' := s.toks + k.draws) (by rw [e1]; trivial) (.inl rfl) (fun b u hb hu => (hs.2 b hb).trans hu) he (rawO_new r'), q es' (sto_ents hp hk ri hd rv hm')⟩
def rGet1R (K : PySem.W.Frag) : V → List V → Hp → VK → Prop := fun x xs H Q => ∃ a ks k y, x = .ref a ∧ xs = [y] ∧ RawD K H a ks ∧ KN K H k y ∧ k.depth ≤ 8 ∧ Q ((look ks k).getD .non) H
def rGet2R (K : PySem.W.Frag) : V → List V → Hp → VK → Prop := fun x xs H Q => ∃ a ks k y z, x = .ref a ∧ xs = [y, z] ∧ RawD K H a ks ∧ KN K H k y ∧ k.depth ≤ 8 ∧ Q ((look ks k).getD z) H
def rSetdR (K : PySem.W.Frag) : V → List V → Hp → VK → Prop := fun x xs H Q => ∃ a ks k y z, x = .ref a ∧ xs = [y, z] ∧ RawD K H a ks ∧ KN K H k y ∧ k.depth ≤ 8 ∧ ks.length < sizeLine ∧
  (∀ v, look ks k = some v → Q v H) ∧ (look ks k = none → ∀ es', Paired (EntV K H) (sto ks k z) es'.toList → Q z (upd H a (RawO a es')))
theorem mt_get1R (hu : X.A.units + 65 < cLine) : MtR X "dict.get" (rGet1R X.K) := by
  intro pins s σ H x xs v us Q I rx rxs h
  obtain ⟨a, ks, k, y, rfl, rfl, hr, hk, hd, q⟩ := h
  cases rx
  cases rxs with
  | cons ry rt =>
    cases rt
    obtain ⟨es, xs, e1, hm, hp⟩ := dok_of I hr
    refine call_meetsIn PySem.F.slot_dict_get hm.typeIs PySem.F.entry_dict_get (PySem.F.args_dict_get_2 _ _) (meets_get1 hr.choose_spec.2.2.2.2) ⟨by simp; omega, k, es, xs, ⟨hk.is I ry, hd⟩, hm, (look ks k).getD .non, H, I.tok _, ?_, q⟩
    rcases look_at (k := k) hp with ⟨l1, l2⟩ | ⟨v0, u0, l1, l2, rr⟩
    · rw [l1, l2]; rfl
    · rw [l1, l2]; exact rr
theorem mt_get2R (hu : X.A.units + 65 < cLine) : MtR X "dict.get" (rGet2R X.K) := by
  intro pins s σ H x xs v us Q I rx rxs h
  obtain ⟨a, ks, k, y, z, rfl, rfl, hr, hk, hd, q⟩ := h
  cases rx
  cases rxs with
  | cons ry rt =>
    cases rt with
    | cons rz rt =>
      cases rt
      obtain ⟨es, xs, e1, hm, hp⟩ := dok_of I hr
      refine call_meetsIn PySem.F.slot_dict_get hm.typeIs PySem.F.entry_dict_get (PySem.F.args_dict_get_3 _ _ _) (meets_get2 hr.choose_spec.2.2.2.2 _) ⟨by simp; omega, k, es, xs, ⟨hk.is I ry, hd⟩, hm, (look ks k).getD z, H, I.tok _, ?_, q⟩
      rcases look_at (k := k) hp with ⟨l1, l2⟩ | ⟨v0, u0, l1, l2, rr⟩
      · rw [l1, l2]; exact rz
      · rw [l1, l2]; exact rr
theorem mt_setdR (hu : X.A.units + 65 < cLine) : MtR X "dict.setdefault" (rSetdR X.K) := by
  intro pins s σ H x xs v us Q I rx rxs h
  obtain ⟨a, ks, k, y, z, rfl, rfl, hr, hk, hd, hz, q1, q2⟩ := h
  cases rx
  cases rxs with
  | cons ry rt =>
    cases rt with
    | cons rz rt =>
      cases rt
      obtain ⟨es, xs, e1, hm, hp⟩ := dok_of I hr
      refine call_meetsIn PySem.F.slot_dict_setdefault hm.typeIs PySem.F.entry_dict_setdefault (PySem.F.args_dict_setdefault_3 _ _ _) (meets_setd hr.choose_spec.2.2.2.2 _) ⟨by simp; omega, k, es, xs, ⟨hk.is I ry, hd⟩, hm, by rw [← Paired.length hp]; exact hz, fun p hpp => ?_, fun hn h' es' hm' hs => ?_⟩
      · rcases look_at (k := k) hp with ⟨l1, l2⟩ | ⟨v0, u0, l1, l2, rr⟩
        · rw [l2] at hpp; cases hpp
        · rw [l2] at hpp; cases hpp
          exact ⟨v0, H, I.tok _, rr, q1 v0 l1⟩
      · have r' := hm'.raw
        have he : ∃ u, h'.get? a = some u := let ⟨o, ho, _⟩ := r'; ⟨o, ho⟩
        have ln : look ks k = none := by
          rcases look_at (k := k) hp with ⟨l1, l2⟩ | ⟨v0, u0, l1, l2, rr⟩
          · exact l1
          · rw [l2] at hn; cases hn
        exact ⟨z, upd H a (RawO a es'), I.write (e := a) (t' := s.toks + k.draws) (by rw [e1]; trivial) (.inl rfl) (fun b u hb hu => (hs.2 b hb).trans hu) he (rawO_new r'), rz, q2 ln es' (sto_ents hp hk ry hd rz hm')⟩
/-- {} -/
def tDNewR : TE := fun _ H Q => ∀ p, H p = none → (p == sysModules) = false → Q (.ref p) (upd H p (RawO p #[]))
theorem pe_dnewR {pos : Pos} : PE X (.Dict [] [] pos) tDNewR := ⟨fun pins s σ H Q I h =>
  wpAny_Dict_empty ⟨.ref s.heap.objs.size, _, I.laid (a := s.heap.objs.size) (o := RawO s.heap.objs.size #[]) (t' := s.toks) (fun _ _ q => Heap.get?_push_of_some _ q) (Nat.le_refl _) (rawO_new ⟨_, Heap.get?_push_size _ rfl, ⟨rfl, rfl, rfl⟩, rfl⟩), rfl,
    h _ (I.hok.fresh (Nat.le_refl _)) (beq_eq_false_iff_ne.mpr (Ne.symm (Nat.ne_of_lt I.big)))⟩⟩
/-! methods -/
def IsRaw (K : PySem.W.Frag) (H : Hp) (x : V) : Prop := ∃ a ks, x = .ref a ∧ RawD K H a ks
def tRM (K : PySem.W.Frag) (r : V → List V → Hp → VK → Prop) (to : TE) (t : TA) : TE := fun σ H Q => to σ H fun x H1 => IsRaw K H1 x ∧ t σ H1 fun xs H2 => r x xs H2 Q
theorem raw_ty (I : Inv X pins σ H s) {x : V} {v : Value} (r : RelV x v) (h : IsRaw X.K H x) : s.TypeIs v "dict" ∧ ∀ a, v = .ref a → ∃ ob, s.heap.get? a = some ob ∧ ob.dict = none := by
  obtain ⟨a, ks, rfl, hr⟩ := h
  cases r
  obtain ⟨es, xs, e1, hm, hp⟩ := dok_of I hr
  refine ⟨hm.typeIs, fun b e => ?_⟩
  cases e
  obtain ⟨o, ep, hep, ho, hc, _⟩ := hm
  exact ⟨o, ho, hc.2.1⟩
theorem pe_rm {o e : Expr} {es : List Expr} {to : TE} {t : TA} {apos cpos : Pos} {name : Str} {id : String} {r : V → List V → Hp → VK → Prop} (slot : Slot "dict" name id) (hty : typeOf (.builtin id) = pure (.type "method_descriptor")) (hm : MtR X id r) (ho : PE X o to) (ha : PA X (e :: es) t)
    (hbase : attributeBase o name X.env (eval o X.env) = eval o X.env := by rfl)
    (hfew : ((backTo cpos (starEach (e :: es) X.env)).all (fun x => !x.1) && (backToKw cpos (keywordEach [] X.env)).all (fun x => x.1.isSome)
      && decide ((e :: es).length + ([] : List Keyword).length + (if ([] : List Keyword).isEmpty then 0 else 1) < 30)) = true := by rfl)
    (hline : (apos.endLine == cpos.line) = true := by rfl) (hs : starEach (e :: es) X.env = (false, eval e X.env) :: starEach es X.env := by rfl) (hplain : (backTo cpos (starEach es X.env)).any (·.1) = false := by rfl) :
    PE X (.Call (.Attribute o name apos) (e :: es) [] cpos) (tRM X.K r to t) := by
  refine ⟨fun pins s σ H Q I h => ?_⟩
  refine wpAny_Call_method_late hbase hfew hline rfl (thn (ho.run pins s σ H _ I h) fun v s1 ⟨x, H1, I1, r1, ty, q1⟩ => ?_)
  obtain ⟨h1, h2⟩ := raw_ty I1 r1 ty
  refine ⟨"dict", id, PySem.F.plainAttrs_dict, slot, hty, h1, h2, ?_⟩
  have hA := ha.run cpos pins s1 σ H1 _ I1 q1
  rw [hs] at hA ⊢
  refine Calls.callWith_builtin (by show (false || (backTo cpos (starEach es X.env)).any (·.1)) = false; rw [hplain] <;> rfl) (Calls.evalArgs_plain ?_)
  exact thn hA fun us s2 ⟨vs, H2, I2, r2, q2⟩ => hm pins s2 σ H2 x vs v us Q I2 r1 r2 q2
end
end Q
namespace Q
open PySem L2 DV
/-! ### dicts as lists of pairs -/
mutual
def nk : D → Option NestedKey
  | .non => some .none
  | .int i => some (.num i)
  | .tup xs => (nks xs).map .tup
  | _ => none
def nks : List D → Option (List NestedKey)
  | [] => some []
  | d :: ds => (nk d).bind fun k => (nks ds).map (k :: ·)
end
mutual
theorem kN_nk : ∀ {d : D} {k : NestedKey}, nk d = some k → d = kN k
  | .non, k, h => by simp only [nk] at h; cases h; rw [kN]
  | .int i, k, h => by simp only [nk] at h; cases h; rw [kN]
  | .tup xs, k, h => by
    simp only [nk] at h
    obtain ⟨ks, h1, rfl⟩ := Option.map_eq_some_iff.mp h
    rw [kN, ← kN_nks h1]
  | .bl b, k, h => by simp [nk] at h
  | .str b, k, h => by simp [nk] at h
  | .fl b, k, h => by simp [nk] at h
  | .par b, k, h => by simp [nk] at h
  | .ref b, k, h => by simp [nk] at h
theorem kN_nks : ∀ {d : List D} {k : List NestedKey}, nks d = some k → d = kNs k
  | [], k, h => by simp only [nks] at h; cases h; rw [kNs]
  | d :: ds, k, h => by
    simp only [nks] at h
    obtain ⟨k1, h1, h⟩ := bind_some h
    obtain ⟨k2, h2, rfl⟩ := Option.map_eq_some_iff.mp h
    rw [kNs, ← kN_nk h1, ← kN_nks h2]
end
section
variable {K : PySem.W.Frag} {ι : List Addr} {H : Hp}
mutual
theorem RV.kn : ∀ {d : D} {v : V} {k : NestedKey}, RV K ι H d v → nk d = some k → KN K H k v
  | _, _, k, .non, h => by simp only [nk] at h; cases h; exact .non
  | _, _, k, .int i, h => by simp only [nk] at h; cases h; exact .num i
  | _, _, k, .tup hs r, h => by
    simp only [nk] at h
    obtain ⟨ks, h1, rfl⟩ := Option.map_eq_some_iff.mp h
    exact .tup hs (RVs.kn r h1)
  | _, _, k, .bl _, h => by simp [nk] at h
  | _, _, k, .str _, h => by simp [nk] at h
  | _, _, k, .fl _ _, h => by simp [nk] at h
  | _, _, k, .par _ _, h => by simp [nk] at h
  | _, _, k, .ref _, h => by simp [nk] at h
  | _, _, k, .lam _ _, h => by simp [nk] at h
theorem RVs.kn : ∀ {d : List D} {v : List V} {k : List NestedKey}, RVs K ι H d v → nks d = some k → KNs K H k v
  | _, _, k, .nil, h => by simp only [nks] at h; cases h; exact .nil
  | _, _, k, .cons r t, h => by
    simp only [nks] at h
    obtain ⟨k1, h1, h⟩ := bind_some h
    obtain ⟨k2, h2, rfl⟩ := Option.map_eq_some_iff.mp h
    exact .cons (RV.kn r h1) (RVs.kn t h2)
end
end
mutual
theorem kN_inj : ∀ {k j : NestedKey}, kN k = kN j → k = j
  | .none, j, h => by cases j <;> simp [kN] at h; rfl
  | .num i, j, h => by cases j <;> simp [kN] at h; rw [h]
  | .text i, j, h => by cases j <;> simp [kN] at h; rw [h]
  | .tup ks, j, h => by
    cases j with
    | tup js => simp only [kN, D.tup.injEq] at h; rw [kNs_inj h]
    | _ => simp [kN] at h
theorem kNs_inj : ∀ {k j : List NestedKey}, kNs k = kNs j → k = j
  | [], j, h => by cases j <;> simp [kNs] at h; rfl
  | k :: ks, j, h => by
    cases j with
    | nil => simp [kNs] at h
    | cons j js =>
      simp only [kNs, List.cons.injEq] at h
      rw [kN_inj h.1, kNs_inj h.2]
end
open Classical in
noncomputable def dlook (kvs : List (D × D)) (d : D) : Option D := (kvs.find? fun p => decide (p.1 = d)).map (·.2)
open Classical in
noncomputable def dsto (kvs : List (D × D)) (d v : D) : List (D × D) := if (dlook kvs d).isSome then kvs.map (fun p => if p.1 = d then (p.1, v) else p) else kvs ++ [(d, v)]
section
variable {K : PySem.W.Frag} {ι : List Addr} {H : Hp}
abbrev DR (K : PySem.W.Frag) (ι : List Addr) (H : Hp) : List (D × D) → List (NestedKey × V) → Prop := Paired (fun (p : D × D) (q : NestedKey × V) => p.1 = kN q.1 ∧ RV K ι H p.2 q.2)
theorem look_rel {kvs : List (D × D)} {ks : List (NestedKey × V)} {k : NestedKey} (h : DR K ι H kvs ks) : (dlook kvs (kN k) = none ∧ look ks k = none) ∨ ∃ v u, dlook kvs (kN k) = some v ∧ look ks k = some u ∧ RV K ι H v u := by
  induction h with
  | nil => exact .inl ⟨rfl, rfl⟩
  | @cons p q ps qs h _ ih =>
    by_cases hk : q.1 = k
    · have hk' : p.1 = kN k := by rw [h.1, hk]
      exact .inr ⟨p.2, q.2, by simp [dlook, hk'], by simp [look, hk], h.2⟩
    · have hk' : ¬ p.1 = kN k := fun e => hk (kN_inj (h.1.symm.trans e))
      have e1 : dlook (p :: ps) (kN k) = dlook ps (kN k) := by simp [dlook, hk']
      have e2 : look (q :: qs) k = look qs k := by simp [look, hk]
      rw [e1, e2]
      exact ih
theorem sto_rel {kvs : List (D × D)} {ks : List (NestedKey × V)} {k : NestedKey} {v : D} {u : V} (h : DR K ι H kvs ks) (hv : RV K ι H v u) : DR K ι H (dsto kvs (kN k) v) (sto ks k u) := by
  unfold dsto sto
  rcases look_rel (k := k) h with ⟨e1, e2⟩ | ⟨v0, u0, e1, e2, _⟩
  · rw [e1, e2]
    simp only [Option.isSome_none, Bool.false_eq_true, if_false]
    clear e1 e2
    induction h with
    | nil => exact .cons ⟨rfl, hv⟩ .nil
    | cons h _ ih => exact .cons h ih
  · rw [e1, e2]
    simp only [Option.isSome_some, if_true]
    clear e1 e2
    induction h with
    | nil => exact .nil
    | @cons p q ps qs h _ ih =>
      refine .cons ?_ ih
      by_cases hk : q.1 = k
      · have hk' : p.1 = kN k := by rw [h.1, hk]
        simp only [if_pos hk, if_pos hk']
        exact ⟨h.1, hv⟩
      · have hk' : ¬ p.1 = kN k := fun e => hk (kN_inj (h.1.symm.trans e))
        simp only [if_neg hk, if_neg hk']
        exact h
theorem DR.mono {ι' : List Addr} {H' : Hp} {kvs : List (D × D)} {ks : List (NestedKey × V)} (h : DR K ι H kvs ks) (p : Kp ι H ι' H') : DR K ι' H' kvs ks := Paired.mapP h fun _ _ z => ⟨z.1, z.2.kp p⟩
end
/-- a dict in the memory is written -/
theorem set_raw_at {K : PySem.W.Frag} {ι : List Addr} {H : Hp} {m : Mem} {n : Nat} {a : Addr} {ks ks' : List (NestedKey × V)} {kvs' : List (D × D)} {es' : Array DictEntry} (rm : RM K ι H m) (e : ι[n]? = some a) (h : RawD K H a ks) (hp : Paired (EntV K H) ks' es'.toList) (hn : (ks'.map (·.1)).Nodup) (hz : ks'.length ≤ sizeLine) (r : DR K ι H kvs' ks') :
    Le ι H ι (upd H a (RawO a es')) ∧ RM K ι (upd H a (RawO a es')) (m.set n (.dcr kvs')) := by
  obtain ⟨es, h1, _, _, _, h5⟩ := h
  have mu : Mut (H a) := by rw [h1]; trivial
  have ku : Kp ι H ι (upd H a (RawO a es')) := Kp.upd mu
  have ha : a ∈ ι := List.mem_of_getElem? e
  refine ⟨⟨⟨[], by simp, by simp⟩, fun b u hb c => ?_⟩, ⟨rm.nd, by simp [rm.len], fun k b hb => ?_⟩⟩
  · by_cases z : b = a
    · subst z
      rw [hb] at mu
      rcases c with c | c
      · exact (nofz mu c).elim
      · exact absurd ha c
    · rw [upd_ne z]; exact hb
  · by_cases z : n = k
    · subst z
      have hl : n < m.length := by rw [← rm.len]; exact (List.getElem?_eq_some_iff.mp e).1
      rw [List.getElem?_set_self hl] at hb
      cases hb
      exact ⟨a, e, ks', ⟨es', upd_same, Paired.mapP hp fun x e ⟨⟨kv, z1, z2⟩, z3⟩ => ⟨⟨kv, z1.kp ku, z2⟩, z3⟩, hn, hz, h5⟩, r.mono ku⟩
    · rw [List.getElem?_set_ne z] at hb
      obtain ⟨a', e1, rb⟩ := rm.ob k b hb
      refine ⟨a', e1, rb.kp ku (upd_ne fun q => z ?_)⟩
      subst q
      have h1 := (List.getElem?_eq_some_iff.mp e)
      have h2 := (List.getElem?_eq_some_iff.mp e1)
      exact nd_inj rm.nd h1.1 h2.1 (h1.2.trans h2.2.symm)
/-- a dict that is read -/
def dctOf (x : Out) (m : Mem) : Option (List (D × D)) := match x with
  | .v (.ref n) => (match m[n]? with | some (.dcr a) => some a | _ => none)
  | .o (.dcr a) => some a
  | _ => none
theorem dct_at {K : PySem.W.Frag} {ι : List Addr} {H H0 : Hp} {m : Mem} {x : Out} {v : V} {kvs : List (D × D)} (rm : RM K ι H m) (ro : RO K H0 ι H x v) (h : dctOf x m = some kvs) : ∃ a ks, v = .ref a ∧ RawD K H a ks ∧ DR K ι H kvs ks := by
  unfold dctOf at h
  split at h
  · split at h
    · rename_i n _ ys hm
      cases h
      cases ro with
      | ref e =>
        obtain ⟨a, e1, ks, e2, r⟩ := rm.ob _ _ hm
        rw [e] at e1; cases e1
        exact ⟨_, ks, rfl, e2, r⟩
    · cases h
  · cases h
    obtain ⟨p, e, _, _, ks, e2, r⟩ := ro
    exact ⟨p, ks, e, e2, r⟩
  · cases h
/-- a key: data without places, not deep -/
def keyOf (x : Out) : Option D := match x with
  | .v d => (match nk d with | some k => if k.depth ≤ 8 then some d else none | none => none)
  | _ => none
theorem key_at {K : PySem.W.Frag} {ι : List Addr} {H H0 : Hp} {x : Out} {v : V} {d : D} (ro : RO K H0 ι H x v) (h : keyOf x = some d) : ∃ k, d = kN k ∧ KN K H k v ∧ k.depth ≤ 8 := by
  unfold keyOf at h
  split at h
  · split at h
    · rename_i k hk
      split at h
      · rename_i hd
        cases h
        exact ⟨k, kN_nk hk, RV.kn ro hk, hd⟩
      · cases h
    · cases h
  · cases h
/-- d[k] -/
noncomputable def dixF (x : Out) (y : Out) (m : Mem) : Option (Out × Mem) := (dctOf x m).bind fun kvs => (keyOf y).bind fun d => (dlook kvs d).map fun v => (.v v, m)
theorem dixU {K : PySem.W.Frag} : R2S K (rIxR K) dixF := by
  intro ι H H0 m x y z vx vy m' Q rm bd rx ry hf k
  obtain ⟨kvs, h1, hf⟩ := bind_some hf
  obtain ⟨d, h2, hf⟩ := bind_some hf
  obtain ⟨v, h3, h4⟩ := Option.map_eq_some_iff.mp hf
  cases h4
  obtain ⟨a, ks, rfl, hr, dr⟩ := dct_at rm rx h1
  obtain ⟨kk, rfl, hk, hd⟩ := key_at ry h2
  rcases look_rel (k := kk) dr with ⟨e1, e2⟩ | ⟨v0, u0, e1, e2, rv⟩
  · rw [e1] at h3; cases h3
  · rw [e1] at h3; cases h3
    exact ⟨a, ks, kk, u0, rfl, hr, hk, hd, e2, k _ ι H (Le.refl _ _) rm rv⟩
/-- k in d, k not in d -/
noncomputable def dinF (neg : Bool) (x : Out) (y : Out) (m : Mem) : Option (Out × Mem) := (dctOf y m).bind fun kvs => (keyOf x).bind fun d => some (.v (.bl (if neg then !(dlook kvs d).isSome else (dlook kvs d).isSome)), m)
theorem dinU {K : PySem.W.Frag} {neg : Bool} : R2S K (rInR K neg) (dinF neg) := by
  intro ι H H0 m x y z vx vy m' Q rm bd rx ry hf k
  obtain ⟨kvs, h1, hf⟩ := bind_some hf
  obtain ⟨d, h2, hf⟩ := bind_some hf
  cases hf
  obtain ⟨a, ks, rfl, hr, dr⟩ := dct_at rm ry h1
  obtain ⟨kk, rfl, hk, hd⟩ := key_at rx h2
  refine ⟨a, ks, kk, rfl, hr, hk, hd, ?_⟩
  have e : (dlook kvs (kN kk)).isSome = (look ks kk).isSome := by
    rcases look_rel (k := kk) dr with ⟨e1, e2⟩ | ⟨v0, u0, e1, e2, rv⟩ <;> rw [e1, e2] <;> rfl
  rw [← e]
  exact k _ ι H (Le.refl _ _) rm (RV.bl _)
/-- d[k] = v -/
noncomputable def dstoF (o i : Out) (d : D) (m : Mem) : Option Mem := match o with
  | .v (.ref n) => (match m[n]? with
    | some (.dcr kvs) => (keyOf i).bind fun k => if fits (kvs.length + 1) then some (m.set n (.dcr (dsto kvs k d))) else none
    | _ => none)
  | _ => none
@[simp] noncomputable def gDx (o i : E) (d : D) (ρ : Env) (m : Mem) : Option (Env × Mem) := (o ρ m).bind fun x => (i ρ x.2).bind fun y => (dstoF x.1 y.1 d y.2).bind fun m' => some (ρ, m')
theorem sg_dx {X : Cx} {e : Expr} {fo fi : E} (h0 : PG X e (gSub (tE X.K fo) (tE X.K fi) (rSetR X.K))) : SG X e (gDx fo fi) := pg_imp h0 fun v σ H Q ⟨ι, ρ, m, d, ρ', m', rs, rm, rv, hg, k⟩ => by
  obtain ⟨x, h1, hg⟩ := bind_some hg
  obtain ⟨y, h2, hg⟩ := bind_some hg
  obtain ⟨m2, h3, hg⟩ := bind_some hg
  cases hg
  refine ⟨ι, ρ, m, x.1, x.2, rs, rm, h1, fun ov ι1 H1 l1 rm1 ro1 bd1 => ?_⟩
  refine ⟨ι1, ρ, x.2, y.1, y.2, rs.mono l1, rm1, h2, fun iv ι2 H2 l2 rm2 ro2 bd2 => ?_⟩
  unfold dstoF at h3
  split at h3
  · rename_i n e1
    rw [e1] at ro1
    split at h3
    · rename_i kvs hm
      obtain ⟨dk, h4, h3⟩ := bind_some h3
      split at h3
      · rename_i hz; cases h3
        obtain ⟨kk, rfl, hk, hd⟩ := key_at ro2 h4
        have ro3 := ro1.mono l2
        cases ro3 with
        | ref e =>
          obtain ⟨a, e3, ks, e4, r⟩ := rm2.ob _ _ hm
          rw [e] at e3; cases e3
          have hl : ks.length + 1 ≤ sizeLine := by rw [← Paired.length r]; exact hz
          refine ⟨_, ks, kk, rfl, e4, hk, hd, by omega, fun es' hp => ?_⟩
          obtain ⟨l3, rm3⟩ := set_raw_at rm2 e e4 hp (sto_keys e4.choose_spec.2.2.1) (Nat.le_trans (sto_len _ _ _) hl) (sto_rel r ((rv.mono l1).mono l2))
          exact k _ ι2 _ (l1.tr rm1 (l2.tr rm2 l3)) (((rs.mono l1).mono l2).mono l3) rm3
      · cases h3
    · cases h3
  · cases h3
/-- {} -/
@[simp] def eDnew (_ : Env) (m : Mem) : Option (Out × Mem) := some (.o (.dcr []), m)
theorem se_dnew {X : Cx} {pos : Pos} : SE X (.Dict [] [] pos) eDnew := pe_imp pe_dnewR fun σ H Q ⟨ι, ρ, m, z, m', rs, rm, hf, k⟩ => by
  cases hf
  intro p hp hs bd
  exact k _ ι _ (Le.newAt hp) (rm.newAt hp) ⟨p, rfl, hp, fun z => rm.there p z hp, [], ⟨#[], upd_same, .nil, by simp, by simp, hs⟩, .nil⟩ bd
/-! methods -/
def isDct (x : Out) (m : Mem) : Bool := (dctOf x m).isSome
@[simp] def eDm1 (f : F2) (a b : E) (ρ : Env) (m : Mem) : Option (Out × Mem) := (a ρ m).bind fun x => if isDct x.1 x.2 = true then (b ρ x.2).bind fun y => f x.1 y.1 y.2 else none
abbrev F3 := Out → Out → Out → Mem → Option (Out × Mem)
@[simp] def eDm2 (f : F3) (a b c : E) (ρ : Env) (m : Mem) : Option (Out × Mem) := (a ρ m).bind fun x => if isDct x.1 x.2 = true then (b ρ x.2).bind fun y => (c ρ y.2).bind fun z => f x.1 y.1 z.1 z.2 else none
def R3N (K : PySem.W.Frag) (r : V → V → V → Hp → VK → Prop) (f : F3) : Prop := ∀ (ι0 : List Addr) (H0 : Hp) (ι : List Addr) (H : Hp) (m : Mem) (x y t z : Out) (vx vy vt : V) (m' : Mem) (Q : VK), Le ι0 H0 ι H → RM K ι H m → Bnd K H → RO K H0 ι H x vx → RO K H0 ι H y vy → RO K H0 ι H t vt → f x y t m = some (z, m') →
  (∀ v ι' H', Le ι0 H0 ι' H' → RM K ι' H' m' → RO K H0 ι' H' z v → Q v H') → r vx vy vt H Q
section
variable {X : Cx} {e : Expr} {fa fb fc : E} {f2 : F2} {f3 : F3} {r : V → List V → Hp → VK → Prop}
theorem isDct_raw {K : PySem.W.Frag} {ι : List Addr} {H H0 : Hp} {m : Mem} {x : Out} {v : V} (rm : RM K ι H m) (ro : RO K H0 ι H x v) (h : isDct x m = true) : IsRaw K H v := by
  obtain ⟨kvs, h1⟩ := Option.isSome_iff_exists.mp h
  obtain ⟨a, ks, e, hr, _⟩ := dct_at rm ro h1
  exact ⟨a, ks, e, hr⟩
theorem se_dm1 (h0 : PE X e (tRM X.K r (tE X.K fa) (tCons (tE X.K fb) tNil))) (hr : R2N X.K (fun v u H Q => r v [u] H Q) f2) : SE X e (eDm1 f2 fa fb) := pe_imp h0 fun σ H Q ⟨ι, ρ, m, z, m', rs, rm, hf, k⟩ => by
  obtain ⟨x, h1, hf⟩ := bind_some hf
  split at hf
  · rename_i ht
    obtain ⟨y, h2, hf⟩ := bind_some hf
    refine ⟨ι, ρ, m, x.1, x.2, rs, rm, h1, fun v ι1 H1 l1 rm1 ro1 bd1 => ⟨isDct_raw rm1 ro1 ht, ?_⟩⟩
    refine ⟨ι1, ρ, x.2, y.1, y.2, rs.mono l1, rm1, h2, fun u ι2 H2 l2 rm2 ro2 bd2 => ?_⟩
    exact hr ι H ι2 H2 y.2 x.1 y.1 z v u m' _ (l1.tr rm1 l2) rm2 bd2 (ro1.mono l2) (ro2.from l1 rm1) hf fun w ι3 H3 l3 rm3 ro3 bd3 => k w ι3 H3 l3 rm3 ro3 bd3
  · cases hf
theorem se_dm2 (h0 : PE X e (tRM X.K r (tE X.K fa) (tCons (tE X.K fb) (tCons (tE X.K fc) tNil)))) (hr : R3N X.K (fun v u t H Q => r v [u, t] H Q) f3) : SE X e (eDm2 f3 fa fb fc) := pe_imp h0 fun σ H Q ⟨ι, ρ, m, z, m', rs, rm, hf, k⟩ => by
  obtain ⟨x, h1, hf⟩ := bind_some hf
  split at hf
  · rename_i ht
    obtain ⟨y, h2, hf⟩ := bind_some hf
    obtain ⟨t, h3, hf⟩ := bind_some hf
    refine ⟨ι, ρ, m, x.1, x.2, rs, rm, h1, fun v ι1 H1 l1 rm1 ro1 bd1 => ⟨isDct_raw rm1 ro1 ht, ?_⟩⟩
    refine ⟨ι1, ρ, x.2, y.1, y.2, rs.mono l1, rm1, h2, fun u ι2 H2 l2 rm2 ro2 bd2 => ?_⟩
    refine ⟨ι2, ρ, y.2, t.1, t.2, (rs.mono l1).mono l2, rm2, h3, fun tv ι3 H3 l3 rm3 ro3 bd3 => ?_⟩
    exact hr ι H ι3 H3 t.2 x.1 y.1 t.1 z v u tv m' _ (l1.tr rm1 (l2.tr rm2 l3)) rm3 bd3 ((ro1.mono l2).mono l3) ((ro2.mono l3).from l1 rm1) (ro3.from (l1.tr rm1 l2) rm2) hf fun w ι4 H4 l4 rm4 ro4 bd4 => k w ι4 H4 l4 rm4 ro4 bd4
  · cases hf
end
/-- d.get(k), d.get(k, z) -/
noncomputable def get1F (x : Out) (y : Out) (m : Mem) : Option (Out × Mem) := (dctOf x m).bind fun kvs => (keyOf y).bind fun d => some (.v ((dlook kvs d).getD .non), m)
theorem get1U {K : PySem.W.Frag} : R2S K (fun v u H Q => rGet1R K v [u] H Q) get1F := by
  intro ι H H0 m x y z vx vy m' Q rm bd rx ry hf k
  obtain ⟨kvs, h1, hf⟩ := bind_some hf
  obtain ⟨d, h2, hf⟩ := bind_some hf
  cases hf
  obtain ⟨a, ks, rfl, hr, dr⟩ := dct_at rm rx h1
  obtain ⟨kk, rfl, hk, hd⟩ := key_at ry h2
  refine ⟨a, ks, kk, _, rfl, rfl, hr, hk, hd, ?_⟩
  rcases look_rel (k := kk) dr with ⟨e1, e2⟩ | ⟨v0, u0, e1, e2, rv⟩
  · rw [e1] at k; rw [e2]; exact k _ ι H (Le.refl _ _) rm RV.non
  · rw [e1] at k; rw [e2]; exact k _ ι H (Le.refl _ _) rm rv
noncomputable def get2F (x : Out) (y : Out) (t : Out) (m : Mem) : Option (Out × Mem) := (dctOf x m).bind fun kvs => (keyOf y).bind fun d => match dlook kvs d with
  | some v => some (.v v, m)
  | none => some (t, m)
theorem get2U {K : PySem.W.Frag} : R3N K (fun v u t H Q => rGet2R K v [u, t] H Q) get2F := by
  intro ι0 H0 ι H m x y t z vx vy vt m' Q l rm bd rx ry rt hf k
  obtain ⟨kvs, h1, hf⟩ := bind_some hf
  obtain ⟨d, h2, hf⟩ := bind_some hf
  obtain ⟨a, ks, rfl, hr, dr⟩ := dct_at rm rx h1
  obtain ⟨kk, rfl, hk, hd⟩ := key_at ry h2
  refine ⟨a, ks, kk, _, _, rfl, rfl, hr, hk, hd, ?_⟩
  rcases look_rel (k := kk) dr with ⟨e1, e2⟩ | ⟨v0, u0, e1, e2, rv⟩
  · rw [e1] at hf; cases hf; rw [e2]; exact k _ ι H l rm rt
  · rw [e1] at hf; cases hf; rw [e2]; exact k _ ι H l rm rv
/-- d.setdefault(k, z) -/
noncomputable def setdF (x : Out) (y : Out) (t : Out) (m : Mem) : Option (Out × Mem) := match x with
  | .v (.ref n) => (match m[n]? with
    | some (.dcr kvs) => (keyOf y).bind fun d => if fits (kvs.length + 1) then (match dlook kvs d with
      | some v => some (.v v, m)
      | none => some (.v (val t m).1, (val t m).2.set n (.dcr (dsto kvs d (val t m).1)))) else none
    | _ => none)
  | _ => none
theorem setdU {K : PySem.W.Frag} : R3N K (fun v u t H Q => rSetdR K v [u, t] H Q) setdF := by
  intro ι0 H0 ι H m x y t z vx vy vt m' Q l rm bd rx ry rt hf k
  unfold setdF at hf
  split at hf
  · split at hf
    · rename_i n kvs hm
      obtain ⟨d, h2, hf⟩ := bind_some hf
      split at hf
      · rename_i hz
        obtain ⟨kk, rfl, hk, hd⟩ := key_at ry h2
        cases rx with
        | ref e =>
          obtain ⟨a, e1, ks, hr, dr⟩ := rm.ob _ _ hm
          rw [e] at e1; cases e1
          have hl : ks.length + 1 ≤ sizeLine := by rw [← Paired.length dr]; exact hz
          refine ⟨_, ks, kk, _, _, rfl, rfl, hr, hk, hd, by omega, fun v hv => ?_, fun hv es' hp => ?_⟩
          · rcases look_rel (k := kk) dr with ⟨e1, e2⟩ | ⟨v0, u0, e1, e2, rv⟩
            · rw [e2] at hv; cases hv
            · rw [e2] at hv; cases hv
              rw [e1] at hf; cases hf
              exact k _ ι H l rm rv
          · rcases look_rel (k := kk) dr with ⟨e1, e2⟩ | ⟨v0, u0, e1, e2, rv⟩
            · rw [e1] at hf; cases hf
              obtain ⟨ι2, l2, rm2, rv2, _, up, ups⟩ := rt.val l rm (RS.nil K ι H)
              cases up _ _ (RV.ref e) with
              | ref e' =>
                obtain ⟨l3, rm3⟩ := set_raw_at rm2 e' hr hp (sto_keys hr.choose_spec.2.2.1) (Nat.le_trans (sto_len _ _ _) hl) (sto_rel (Paired.mapP dr fun _ _ z => ⟨z.1, up _ _ z.2⟩) rv2)
                exact k _ ι2 _ (l2.tr rm2 l3) rm3 (RV.mono l3 rv2)
            · rw [e2] at hv; cases hv
      · cases hf
    · cases hf
  · cases hf
/-! short words -/
section
variable {X : Cx} {e a b c : Expr} {pos p p2 apos : Pos} {fa fb fc : E} {k : Nat}
theorem dix_ (hr : Room k X.A) (ha : SE X a fa) (hb : SE X b fb) (hs : PlainIx b := by exact fun _ _ => rfl) : SE X (.Subscript a b pos) (eBin dixF fa fb) := se_ix (ix_raw (u65 hr)) dixU ha hb hs
theorem din_ (hr : Room k X.A) (ha : SE X a fa) (hb : SE X b fb) (hm : behindInMarks .In b = false := by with_unfolding_all rfl) : SE X (.Compare a [.In] [b] pos) (eBin (dinF false) fa fb) := se_cmp (op_inR (u65 hr)) dinU ha hb hm
theorem dnin_ (hr : Room k X.A) (ha : SE X a fa) (hb : SE X b fb) (hm : behindInMarks .NotIn b = false := by with_unfolding_all rfl) : SE X (.Compare a [.NotIn] [b] pos) (eBin (dinF true) fa fb) := se_cmp (op_notInR (u65 hr)) dinU ha hb hm
theorem t_din (hr : Room k X.A) (ha : SE X a fa) (hb : SE X b fb) (hm : behindInMarks .In b = false := by with_unfolding_all rfl) : ST X (.Compare a [.In] [b] pos) (bOf (eBin (dinF false) fa fb)) := st_cmp (op_inR (u65 hr)) dinU ha hb hm
theorem t_dnin (hr : Room k X.A) (ha : SE X a fa) (hb : SE X b fb) (hm : behindInMarks .NotIn b = false := by with_unfolding_all rfl) : ST X (.Compare a [.NotIn] [b] pos) (bOf (eBin (dinF true) fa fb)) := st_cmp (op_notInR (u65 hr)) dinU ha hb hm
theorem dget1_ (h0 : PE X e (tRM X.K (rGet1R X.K) (tE X.K fa) (tCons (tE X.K fb) tNil))) : SE X e (eDm1 get1F fa fb) := se_dm1 h0 get1U.n
theorem dget2_ (h0 : PE X e (tRM X.K (rGet2R X.K) (tE X.K fa) (tCons (tE X.K fb) (tCons (tE X.K fc) tNil)))) : SE X e (eDm2 get2F fa fb fc) := se_dm2 h0 get2U
theorem dsetd_ (h0 : PE X e (tRM X.K (rSetdR X.K) (tE X.K fa) (tCons (tE X.K fb) (tCons (tE X.K fc) tNil)))) : SE X e (eDm2 setdF fa fb fc) := se_dm2 h0 setdU
end
end Q
namespace Q
open PySem L2
/-! ### xs.index(y) -/
theorem findIdx_spec {α : Type} {p : α → Bool} : ∀ {xs : List α} {j : Nat}, xs.findIdx? p = some j → ∃ y, xs[j]? = some y ∧ p y = true ∧ ∀ (m : Nat) (z : α), m < j → xs[m]? = some z → p z = false := by
  intro xs j h
  obtain ⟨hj, h1, h2⟩ := List.findIdx?_eq_some_iff_getElem.mp h
  refine ⟨xs[j], List.getElem?_eq_getElem hj, h1, fun m z hm hz => ?_⟩
  have := h2 m hm
  obtain ⟨_, rfl⟩ := List.getElem?_eq_some_iff.mp hz
  simpa using this
section
variable {X : Cx}
def rIdxT (K : PySem.W.Frag) : V → List V → Hp → VK → Prop := fun x xs H Q => ∃ p ys z j y, x = .ref p ∧ xs = [z] ∧ SqT K H p ys ∧ flatV z = true ∧ ys.all flatV = true ∧ ys[j]? = some y ∧ eqV y z = true ∧ (∀ m y', m < j → ys[m]? = some y' → eqV y' z = false) ∧ Q (.int (j : Nat)) H
theorem mt_idxT : MtR X "tuple.index" (rIdxT X.K) := by
  intro pins s σ H x xs v us Q I rx rs h
  obtain ⟨p, ys, z, j, y, rfl, rfl, hq, fz, fys, hy, hyz, hno, q⟩ := h
  cases rx
  cases rs with
  | cons rz rt =>
    cases rt
    obtain ⟨its, r, pl, hz⟩ := I.tuple hq
    obtain ⟨⟨cls, dd, dt, sl⟩, ho, hc, n, hd⟩ := pl
    simp only at hc hd
    subst hc
    subst hd
    have hl : its.toArray.size = ys.length := by rw [List.size_toArray, ← r.length]
    have hj : j < its.toArray.size := by rw [hl]; exact (List.getElem?_eq_some_iff.mp hy).1
    have at' : ∀ (m : Nat) (hm : m < its.toArray.size), ∃ y, ys[m]? = some y ∧ L2.eqU z its.toArray[m] = eqV y z := fun m hm => by
      have hm' : m < ys.length := by rw [← hl]; exact hm
      obtain ⟨w, hw, hw'⟩ := r.get (i := m) (x := ys[m]) (List.getElem?_eq_getElem hm')
      refine ⟨ys[m], List.getElem?_eq_getElem hm', ?_⟩
      have e := (List.getElem?_eq_some_iff.mp hw).2
      have e2 : its.toArray[m] = w := by rw [← e]; simp
      rw [e2]
      exact L2.eqU_of hw' ((List.all_eq_true.mp fys) _ (List.getElem_mem hm'))
    refine call_meets PySem.F.slot_tuple_index ⟨_, ho, rfl⟩ PySem.F.entry_tuple_index (PySem.F.args_tuple_index_2 _ _) (_root_.TI.tuple_indexAt p its.toArray n dd sl _ (L2.eqU z) j hj ?_ ?_)
      ⟨ho, fun w hw => mem_eqAt (x := z) rz fz r fys w (by simpa using hw), ⟨.int (j : Nat), H, I.tok _, ⟨_, rfl⟩, q⟩⟩
    · obtain ⟨y', h1, h2⟩ := at' j hj
      rw [hy] at h1
      cases h1
      rw [h2]
      exact hyz
    · intro m hm hmj
      obtain ⟨y', h1, h2⟩ := at' m hm
      rw [h2]
      exact hno m y' hmj h1
def IsTp (K : PySem.W.Frag) (H : Hp) (x : V) : Prop := ∃ a vs, x = .ref a ∧ TpAt K H a vs
theorem tp_ty {pins : List (Addr × Obj)} {σ : St} {H : Hp} {s : Shared} (I : Inv X pins σ H s) {x : V} {v : Value} (r : RelV x v) (h : IsTp X.K H x) : s.TypeIs v "tuple" ∧ ∀ a, v = .ref a → ∃ ob, s.heap.get? a = some ob ∧ ob.dict = none := by
  obtain ⟨a, vs, rfl, hr⟩ := h
  cases r
  obtain ⟨its, _, p, _⟩ := I.tuple hr.sq
  refine ⟨p.typeIs, fun b e => ?_⟩
  cases e
  rcases hr with ⟨o, h1, h2⟩ | ⟨o, _, _, h1, _, h2, _⟩
  · exact ⟨o, (I.hok a _ h1).1, h2⟩
  · exact ⟨o, I.kIn _ _ h1, h2⟩
def tTM (K : PySem.W.Frag) (r : V → List V → Hp → VK → Prop) (to : TE) (t : TA) : TE := fun σ H Q => to σ H fun x H1 => IsTp K H1 x ∧ t σ H1 fun xs H2 => r x xs H2 Q
theorem pe_tm {o e : Expr} {es : List Expr} {to : TE} {t : TA} {apos cpos : Pos} {name : Str} {id : String} {r : V → List V → Hp → VK → Prop} (slot : Slot "tuple" name id) (hty : typeOf (.builtin id) = pure (.type "method_descriptor")) (hm : MtR X id r) (ho : PE X o to) (ha : PA X (e :: es) t)
    (hbase : attributeBase o name X.env (eval o X.env) = eval o X.env := by rfl)
    (hfew : ((backTo cpos (starEach (e :: es) X.env)).all (fun x => !x.1) && (backToKw cpos (keywordEach [] X.env)).all (fun x => x.1.isSome)
      && decide ((e :: es).length + ([] : List Keyword).length + (if ([] : List Keyword).isEmpty then 0 else 1) < 30)) = true := by rfl)
    (hline : (apos.endLine == cpos.line) = true := by rfl) (hs : starEach (e :: es) X.env = (false, eval e X.env) :: starEach es X.env := by rfl) (hplain : (backTo cpos (starEach es X.env)).any (·.1) = false := by rfl) :
    PE X (.Call (.Attribute o name apos) (e :: es) [] cpos) (tTM X.K r to t) := by
  refine ⟨fun pins s σ H Q I h => ?_⟩
  refine wpAny_Call_method_late hbase hfew hline rfl (thn (ho.run pins s σ H _ I h) fun v s1 ⟨x, H1, I1, r1, ty, q1⟩ => ?_)
  obtain ⟨h1, h2⟩ := tp_ty I1 r1 ty
  refine ⟨"tuple", id, PySem.F.plainAttrs_tuple, slot, hty, h1, h2, ?_⟩
  have hA := ha.run cpos pins s1 σ H1 _ I1 q1
  rw [hs] at hA ⊢
  refine Calls.callWith_builtin (by show (false || (backTo cpos (starEach es X.env)).any (·.1)) = false; rw [hplain] <;> rfl) (Calls.evalArgs_plain ?_)
  exact thn hA fun us s2 ⟨vs, H2, I2, r2, q2⟩ => hm pins s2 σ H2 x vs v us Q I2 r1 r2 q2
/-- t.index(y): flat things -/
def idxTF (x : Out) (y : Out) (m : Mem) : Option (Out × Mem) := match x with
  | .v (.tup xs) => (form y m).bind fun a => if flatD a = true ∧ xs.all flatD = true then (xs.findIdx? fun d => d.eqb a).map fun j => (.v (.int (j : Nat)), m) else none
  | _ => none
@[simp] def eTm1 (f : F2) (a b : E) (ρ : Env) (m : Mem) : Option (Out × Mem) := (a ρ m).bind fun x => match x.1 with
  | .v (.tup xs) => (b ρ x.2).bind fun y => f (.v (.tup xs)) y.1 y.2
  | _ => none
theorem eqb_V {K : PySem.W.Frag} {ι : List Addr} {H : Hp} {a : D} {u : V} (q : RV K ι H a u) (h2 : flatD a = true) : ∀ {ds : List D} {vs : List V} {j : Nat} {v : V}, RVs K ι H ds vs → ds.all flatD = true → vs[j]? = some v → ∃ d, ds[j]? = some d ∧ eqV v u = d.eqb a
  | _, _, _, _, .nil, _, e => by simp at e
  | _, _, 0, _, .cons r t, h, e => by
    simp only [List.all_cons, Bool.and_eq_true] at h
    simp at e; subst e
    exact ⟨_, rfl, eqV_D r q h.1 h2⟩
  | _, _, j + 1, _, .cons r t, h, e => by
    simp only [List.all_cons, Bool.and_eq_true] at h
    obtain ⟨d, e1, e2⟩ := eqb_V q h2 (j := j) t h.2 (by simpa using e)
    exact ⟨d, by simpa using e1, e2⟩
theorem se_idxT {e : Expr} {fa fb : E} (h0 : PE X e (tTM X.K (rIdxT X.K) (tE X.K fa) (tCons (tE X.K fb) tNil))) : SE X e (eTm1 idxTF fa fb) := pe_imp h0 fun σ H Q ⟨ι, ρ, m, z, m', rs, rm, hf, k⟩ => by
  obtain ⟨x, h1, hf⟩ := bind_some hf
  split at hf
  · rename_i xs e1
    obtain ⟨y, h2, hf⟩ := bind_some hf
    obtain ⟨a, h3, hf⟩ := bind_some hf
    split at hf
    · rename_i hfl
      obtain ⟨j, h4, h5⟩ := Option.map_eq_some_iff.mp hf
      cases h5
      refine ⟨ι, ρ, m, x.1, x.2, rs, rm, h1, fun v ι1 H1 l1 rm1 ro1 bd1 => ?_⟩
      rw [e1] at ro1
      cases ro1 with
      | tup hs r =>
        refine ⟨⟨_, _, rfl, hs⟩, ι1, ρ, x.2, y.1, y.2, rs.mono l1, rm1, h2, fun u ι2 H2 l2 rm2 ro2 bd2 => ?_⟩
        have hs2 := l2.k.rdT hs
        have r2 := r.mono l2
        have ra := form_flat (m := y.2) ro2 h3 hfl.1
        obtain ⟨d, g1, g2, g3⟩ := findIdx_spec h4
        obtain ⟨v1, g4, g5⟩ := r2.get g1
        refine ⟨_, _, _, j, v1, rfl, rfl, hs2.sq, flatD_v ra hfl.1, flatD_all r2 hfl.2, g4, ?_, fun mm y' hmj hy' => ?_, fun bd => k _ ι2 H2 (l1.tr rm1 l2) rm2 (RV.int _) bd⟩
        · obtain ⟨d', q1, q2⟩ := eqb_V ra hfl.1 r2 hfl.2 g4
          rw [g1] at q1; cases q1
          rw [q2]; exact g2
        · obtain ⟨d', q1, q2⟩ := eqb_V ra hfl.1 r2 hfl.2 hy'
          rw [q2]
          exact g3 mm d' hmj q1
    · cases hf
  · cases hf
end
end Q
namespace Q
open PySem L2
/-! ### more built-in functions of ints -/
def intsOfX : List D → Option (List Int)
  | [] => some []
  | .int b :: r => (intsOfX r).map (b :: ·)
  | _ => none
theorem intsOfX_eq : ∀ {xs : List D} {bs : List Int}, intsOfX xs = some bs → xs = bs.map D.int
  | [], bs, h => by cases h; rfl
  | d :: r, bs, h => by
    cases d with
    | int b =>
      rw [intsOfX] at h
      obtain ⟨cs, h1, h2⟩ := Option.map_eq_some_iff.mp h
      rw [← h2, intsOfX_eq h1]; rfl
    | _ => simp [intsOfX] at h
theorem intsOfX_map (bs : List Int) : intsOfX (bs.map D.int) = some bs := by
  induction bs with
  | nil => rfl
  | cons b r ih => simp [intsOfX, ih]
def sortI (ns : List Int) : List Int := ns.mergeSort fun a b => decide (a ≤ b)
theorem sortI_perm (ns : List Int) : (sortI ns).Perm ns := List.mergeSort_perm _ _
theorem sortI_rise (ns : List Int) : (sortI ns).Pairwise (· ≤ ·) := by
  have := List.pairwise_mergeSort (le := fun a b : Int => decide (a ≤ b)) (by simp; omega) (by simp; omega) ns
  exact this.imp (fun h => by simpa using h)
theorem sortI_unique {a ns : List Int} (h1 : a.Perm ns) (h2 : a.Pairwise (· ≤ ·)) : a = sortI ns :=
  List.Perm.eq_of_pairwise (le := fun a b : Int => a ≤ b) (fun a b _ _ h1 h2 => by omega) h2 (sortI_rise ns) (h1.trans (sortI_perm ns).symm)
/-- sorted(xs), a list of ints -/
def sortF (x : Out) (m : Mem) : Option (Out × Mem) := (lstOf x m).bind fun xs => (intsOfX xs).bind fun ns => some (.o (.lst ((sortI ns).map .int)), m)
theorem sortU' {K : PySem.W.Frag} : R1S K (fun v H Q => rSortedI K [v] H Q) sortF := by
  intro ι H H0 m x z vx m' Q rm bd rx hf k
  obtain ⟨xs, h1, hf⟩ := bind_some hf
  obtain ⟨ns, h2, hf⟩ := bind_some hf
  cases hf
  obtain ⟨a, vs, rfl, hs, r⟩ := lst_at rm rx h1
  rw [intsOfX_eq h2] at r
  rw [r.of_ints] at hs
  refine ⟨_, ns, rfl, .inl (.inl hs), fun out p hp hr hn => ?_⟩
  have := sortI_unique hp hr
  subst this
  exact k _ ι _ (Le.newAt hn) (rm.newAt hn) (new_lst rm hn (RVs.ints _))
/-- sum, max, min of a list of ints -/
def sumF (x : Out) (m : Mem) : Option (Out × Mem) := (lstOf x m).bind fun xs => (intsOfX xs).bind fun ns => some (.v (.int ns.sum), m)
theorem sumU {K : PySem.W.Frag} : R1S K (fun v H Q => rSum K [v] H Q) sumF := by
  intro ι H H0 m x z vx m' Q rm bd rx hf k
  obtain ⟨xs, h1, hf⟩ := bind_some hf
  obtain ⟨ns, h2, hf⟩ := bind_some hf
  cases hf
  obtain ⟨a, vs, rfl, hs, r⟩ := lst_at rm rx h1
  rw [intsOfX_eq h2] at r
  rw [r.of_ints] at hs
  exact ⟨_, ns, rfl, .inl (.inl hs), k _ ι H (Le.refl _ _) rm (RV.int _)⟩
def max2F (x y : Out) (m : Mem) : Option (Out × Mem) := match x, y with
  | .v (.int i), .v (.int j) => some (.v (.int (if j > i then j else i)), m)
  | _, _ => none
def min2F (x y : Out) (m : Mem) : Option (Out × Mem) := match x, y with
  | .v (.int i), .v (.int j) => some (.v (.int (if j < i then j else i)), m)
  | _, _ => none
theorem max2U {K : PySem.W.Frag} : R2S K (fun v u H Q => (fun xs H (Q : VK) => ∃ i j, xs = [V.int i, V.int j] ∧ Q (.int (if j > i then j else i)) H) [v, u] H Q) max2F := by
  intro ι H H0 m x y z vx vy m' Q rm bd rx ry hf k
  unfold max2F at hf
  split at hf
  · cases hf; cases rx; cases ry
    exact ⟨_, _, rfl, k _ ι H (Le.refl _ _) rm (RV.int _)⟩
  · cases hf
theorem min2U {K : PySem.W.Frag} : R2S K (fun v u H Q => (fun xs H (Q : VK) => ∃ i j, xs = [V.int i, V.int j] ∧ Q (.int (if j < i then j else i)) H) [v, u] H Q) min2F := by
  intro ι H H0 m x y z vx vy m' Q rm bd rx ry hf k
  unfold min2F at hf
  split at hf
  · cases hf; cases rx; cases ry
    exact ⟨_, _, rfl, k _ ι H (Le.refl _ _) rm (RV.int _)⟩
  · cases hf
section
variable {X : Cx} {a b : Expr} {p pos : Pos} {fa fb : E}
theorem sorted_ (hm : X.mg "sorted" = none) (ha : SE X a fa) (hg : Gl X "sorted" := by rfl) (hs : starEach [a] X.env = (false, eval a X.env) :: starEach [] X.env := by rfl) (hpl : (backTo pos (starEach [] X.env)).any (·.1) = false := by rfl) : SE X (.Call (.Name "sorted" p) [a] [] pos) (eUn sortF fa) :=
  se_b1 (pe_callB cr_sortedI hg hm (by decide +kernel) (pa1 ha hs) (by decide) (by decide) hs hpl) sortU'
theorem sum_ (hm : X.mg "sum" = none) (ha : SE X a fa) (hc : X.calm = true := by rfl) (hg : Gl X "sum" := by rfl) (hs : starEach [a] X.env = (false, eval a X.env) :: starEach [] X.env := by rfl) (hpl : (backTo pos (starEach [] X.env)).any (·.1) = false := by rfl) : SE X (.Call (.Name "sum" p) [a] [] pos) (eUn sumF fa) :=
  se_b1 (pe_callB (cr_sum hc) hg hm (by decide +kernel) (pa1 ha hs) (by decide) (by decide) hs hpl) sumU
theorem max2_ (hm : X.mg "max" = none) (ha : SE X a fa) (hb : SE X b fb) (hc : X.calm = true := by rfl) (hg : Gl X "max" := by rfl) (hs : starEach [a, b] X.env = (false, eval a X.env) :: starEach [b] X.env := by rfl) (hs2 : starEach [b] X.env = (false, eval b X.env) :: starEach [] X.env := by rfl)
    (hpl : (backTo pos (starEach [b] X.env)).any (·.1) = false := by rfl) : SE X (.Call (.Name "max" p) [a, b] [] pos) (eBin max2F fa fb) :=
  se_b2 (pe_callB (call_max2 hc) hg hm (by decide +kernel) (pa2 ha hb hs hs2) (by decide) (by decide) hs hpl) max2U
theorem min2_ (hm : X.mg "min" = none) (ha : SE X a fa) (hb : SE X b fb) (hc : X.calm = true := by rfl) (hg : Gl X "min" := by rfl) (hs : starEach [a, b] X.env = (false, eval a X.env) :: starEach [b] X.env := by rfl) (hs2 : starEach [b] X.env = (false, eval b X.env) :: starEach [] X.env := by rfl)
    (hpl : (backTo pos (starEach [b] X.env)).any (·.1) = false := by rfl) : SE X (.Call (.Name "min" p) [a, b] [] pos) (eBin min2F fa fb) :=
  se_b2 (pe_callB (call_min2 hc) hg hm (by decide +kernel) (pa2 ha hb hs hs2) (by decide) (by decide) hs hpl) min2U
end
end Q
namespace Q
open PySem L2
/-! ### methods of two arguments -/
@[simp] def eMt2 (T : String) (f : F3) (a b c : E) (ρ : Env) (m : Mem) : Option (Out × Mem) := (a ρ m).bind fun x => if isTyB T x.1 x.2 = true then (b ρ x.2).bind fun y => (c ρ y.2).bind fun z => f x.1 y.1 z.1 z.2 else none
section
variable {X : Cx} {e : Expr} {fa fb fc : E} {f2 : F2} {f3 : F3} {r : V → List V → Hp → VK → Prop} {T : String}
theorem se_mt2 (h0 : PE X e (tBM X.K T r (tE X.K fa) (tCons (tE X.K fb) (tCons (tE X.K fc) tNil)))) (hr : R3N X.K (fun v u t H Q => r v [u, t] H Q) f3) : SE X e (eMt2 T f3 fa fb fc) := pe_imp h0 fun σ H Q ⟨ι, ρ, m, z, m', rs, rm, hf, k⟩ => by
  obtain ⟨x, h1, hf⟩ := bind_some hf
  split at hf
  · rename_i ht
    obtain ⟨y, h2, hf⟩ := bind_some hf
    obtain ⟨t, h3, hf⟩ := bind_some hf
    refine ⟨ι, ρ, m, x.1, x.2, rs, rm, h1, fun v ι1 H1 l1 rm1 ro1 bd1 => ⟨tyV_of rm1 ro1 ht, ?_⟩⟩
    refine ⟨ι1, ρ, x.2, y.1, y.2, rs.mono l1, rm1, h2, fun u ι2 H2 l2 rm2 ro2 bd2 => ?_⟩
    refine ⟨ι2, ρ, y.2, t.1, t.2, (rs.mono l1).mono l2, rm2, h3, fun tv ι3 H3 l3 rm3 ro3 bd3 => ?_⟩
    exact hr ι H ι3 H3 t.2 x.1 y.1 t.1 z v u tv m' _ (l1.tr rm1 (l2.tr rm2 l3)) rm3 bd3 ((ro1.mono l2).mono l3) ((ro2.mono l3).from l1 rm1) (ro3.from (l1.tr rm1 l2) rm2) hf fun w ι4 H4 l4 rm4 ro4 bd4 => k w ι4 H4 l4 rm4 ro4 bd4
  · cases hf
end
/-- xs.insert(i, y), i not below 0 -/
def insOk (i : Int) : Prop := 0 ≤ i ∧ i < 2 ^ 63
noncomputable instance (i : Int) : Decidable (insOk i) := Classical.propDecidable _
theorem insOk_nat {n : Nat} (h : n ≤ 1000000000) : insOk (n : Int) := ⟨by omega, by omega⟩
noncomputable def insF (x : Out) (i : Out) (y : Out) (m : Mem) : Option (Out × Mem) := match x, i with
  | .v (.ref n), .v (.int i) => (match m[n]? with
    | some (.lst xs) => if fits (xs.length + 1) ∧ insOk i then some (.v .non, (val y m).2.set n (.lst (xs.take i.toNat ++ [(val y m).1] ++ xs.drop i.toNat))) else none
    | _ => none)
  | _, _ => none
def rIns : V → List V → Hp → VK → Prop := fun x vs H Q => ∃ (l : Addr) (xs : List V) (i : Int) (y : V), x = .ref l ∧ vs = [.int i, y] ∧ H l = some (.lst xs) ∧ xs.length < sizeLine ∧ 0 ≤ i ∧ i < 2 ^ 63 ∧ Q .non (upd H l (.lst (xs.take i.toNat ++ [y] ++ xs.drop i.toNat)))
theorem insU3 {K : PySem.W.Frag} : R3N K (fun v u t H Q => rIns v [u, t] H Q) insF := by
  intro ι0 H0 ι H m x i y z vx vi vy m' Q l rm bd rx ri ry hf k
  unfold insF at hf
  split at hf
  · split at hf
    · rename_i xs hm
      split at hf
      · rename_i hl; cases hf
        cases ri
        cases rx with
        | ref e =>
          obtain ⟨a, e1, vs, e2, r⟩ := rm.ob _ _ hm
          rw [e] at e1; cases e1
          refine ⟨_, vs, _, vy, rfl, rfl, e2, by rw [← r.length]; exact hl.1, hl.2.1, hl.2.2, ?_⟩
          obtain ⟨ι2, l2, rm2, rv2, _, up, ups⟩ := ry.val l rm (RS.nil K ι H)
          cases up _ _ (RV.ref e) with
          | ref e' =>
            obtain ⟨l3, rm3⟩ := set_lst rm2 e' e2 ((((ups _ _ r).take _).append (.cons rv2 .nil)).append ((ups _ _ r).drop _))
            exact k _ ι2 _ (l2.tr rm2 l3) rm3 RV.non
      · cases hf
    · cases hf
  · cases hf
theorem mt_ins {X : Cx} : MtR X "list.insert" rIns := mt_insert
theorem ins_ {X : Cx} {e : Expr} {fa fb fc : E} (h0 : PE X e (tBM X.K "list" rIns (tE X.K fa) (tCons (tE X.K fb) (tCons (tE X.K fc) tNil)))) : SE X e (eMt2 "list" insF fa fb fc) := se_mt2 h0 insU3
theorem ins_eq {n : Nat} {xs : List D} {M : Mem} {i : Nat} {d : D} (h : M[n]? = some (.lst xs)) (hf : xs.length ≤ 90000) (hi : i ≤ 1000000000) : insF (.v (.ref n)) (.v (.int (i : Int))) (.v d) M = some (.v .non, M.set n (.lst (xs.take i ++ [d] ++ xs.drop i))) := by
  simp only [insF, h, if_pos (show fits (xs.length + 1) ∧ insOk (i : Int) from ⟨fits_of (by omega), insOk_nat hi⟩), val_v, Int.toNat_natCast]
/-! ### max, min of a list of ints -/
def maxI : List Int → Int
  | [] => 0
  | n :: ns => ns.foldl max n
def minI : List Int → Int
  | [] => 0
  | n :: ns => ns.foldl min n
theorem foldl_max (ns : List Int) : ∀ n : Int, (ns.foldl max n = n ∨ ns.foldl max n ∈ ns) ∧ n ≤ ns.foldl max n ∧ ∀ y ∈ ns, y ≤ ns.foldl max n := by
  induction ns with
  | nil => intro n; simp
  | cons a ns ih =>
    intro n
    obtain ⟨h1, h2, h3⟩ := ih (max n a)
    simp only [List.foldl_cons]
    refine ⟨?_, by omega, fun y hy => ?_⟩
    · rcases h1 with h1 | h1
      · rw [h1]
        by_cases h : n ≤ a
        · right; rw [Int.max_eq_right h]; simp
        · left; rw [Int.max_eq_left (by omega)]
      · right; simp [h1]
    · rcases List.mem_cons.mp hy with rfl | hy
      · omega
      · exact h3 y hy
theorem foldl_min (ns : List Int) : ∀ n : Int, (ns.foldl min n = n ∨ ns.foldl min n ∈ ns) ∧ ns.foldl min n ≤ n ∧ ∀ y ∈ ns, ns.foldl min n ≤ y := by
  induction ns with
  | nil => intro n; simp
  | cons a ns ih =>
    intro n
    obtain ⟨h1, h2, h3⟩ := ih (min n a)
    simp only [List.foldl_cons]
    refine ⟨?_, by omega, fun y hy => ?_⟩
    · rcases h1 with h1 | h1
      · rw [h1]
        by_cases h : n ≤ a
        · left; rw [Int.min_eq_left h]
        · right; rw [Int.min_eq_right (by omega)]; simp
      · right; simp [h1]
    · rcases List.mem_cons.mp hy with rfl | hy
      · omega
      · exact h3 y hy
theorem maxI_mem {ns : List Int} (h : ns ≠ []) : maxI ns ∈ ns ∧ ∀ y ∈ ns, y ≤ maxI ns := by
  cases ns with
  | nil => exact absurd rfl h
  | cons n ns =>
    obtain ⟨h1, h2, h3⟩ := foldl_max ns n
    refine ⟨?_, fun y hy => ?_⟩
    · rcases h1 with h1 | h1
      · simp [maxI, h1]
      · simp [maxI, h1]
    · rcases List.mem_cons.mp hy with rfl | hy
      · exact h2
      · exact h3 y hy
theorem minI_mem {ns : List Int} (h : ns ≠ []) : minI ns ∈ ns ∧ ∀ y ∈ ns, minI ns ≤ y := by
  cases ns with
  | nil => exact absurd rfl h
  | cons n ns =>
    obtain ⟨h1, h2, h3⟩ := foldl_min ns n
    refine ⟨?_, fun y hy => ?_⟩
    · rcases h1 with h1 | h1
      · simp [minI, h1]
      · simp [minI, h1]
    · rcases List.mem_cons.mp hy with rfl | hy
      · exact h2
      · exact h3 y hy
/-! ### {} and {k: v} as things -/
@[simp] def eKnew (_ : Env) (m : Mem) : Option (Out × Mem) := some (.o (.dct []), m)
theorem se_knew {X : Cx} {pos : Pos} : SE X (.Dict [] [] pos) eKnew := pe_imp pe_dnewK fun σ H Q ⟨ι, ρ, m, z, m', rs, rm, hf, k⟩ => by
  cases hf
  intro p hp bd
  exact k _ ι _ (Le.newAt hp) (rm.newAt hp) ⟨p, rfl, hp, fun z => rm.there p z hp, [], upd_same, .nil⟩ bd
/-- a key that is a number or a text -/
def key1 : D → Option Key
  | .int i => some (.inl i)
  | .str s => some (.inr s)
  | _ => none
theorem key1_kD {d : D} {k : Key} (h : key1 d = some k) : d = kD k := by
  cases d <;> simp [key1] at h <;> subst h <;> rfl
theorem kD_inj {k j : Key} (h : kD k = kD j) : k = j := by
  cases k <;> cases j <;> simp [kD] at h <;> subst h <;> rfl
/-- the pairs of a display -/
def pairsK : List D → Option (List (D × D))
  | [] => some []
  | k :: v :: r => (key1 k).bind fun _ => (pairsK r).bind fun ps => if (ps.map (·.1)).all (fun j => !(j.eqb k)) then some ((k, v) :: ps) else none
  | _ => none
@[simp] def eKd (fr : A) (ρ : Env) (m : Mem) : Option (Out × Mem) := (fr ρ m).bind fun x => (pairsK x.1).bind fun kvs => if kvs.length ≤ 15 then some (.o (.dct kvs), x.2) else none
def flatP : List (V × V) → List V
  | [] => []
  | p :: r => p.1 :: p.2 :: flatP r
def tPs (K : PySem.W.Frag) (fr : A) : St → Hp → (List (V × V) → Hp → Prop) → Prop := fun σ H Q => ∃ ι ρ m ds m', RS K ι H σ ρ ∧ RM K ι H m ∧ fr ρ m = some (ds, m') ∧ ∀ ps ι' H', Le ι H ι' H' → RM K ι' H' m' → RVs K ι' H' ds (flatP ps) → Q ps H'
def SPs (X : Cx) (pos : Pos) (keys : List (Option Expr)) (values : List Expr) (fr : A) : Prop := ∃ trs, PPs X pos keys values trs ∧ ∀ σ H Q, tPs X.K fr σ H Q → tPairs trs σ H Q
theorem sps_nil {X : Cx} {pos : Pos} : SPs X pos [] [] aNil := ⟨[], pps_nil, fun σ H Q ⟨ι, ρ, m, ds, m', rs, rm, hf, k⟩ => by
  cases hf
  exact k [] ι H (Le.refl _ _) rm .nil⟩
theorem sps_cons {X : Cx} {pos : Pos} {a b : Expr} {fa fb : E} {ks : List (Option Expr)} {vs : List Expr} {fr : A} (ha : SE X a fa) (hb : SE X b fb) (hr : SPs X pos ks vs fr) : SPs X pos (some a :: ks) (b :: vs) (aCons fa (aCons fb fr)) := by
  obtain ⟨trs, h1, h2⟩ := hr
  refine ⟨_, pps_cons ha hb h1, fun σ H Q ⟨ι, ρ, m, ds, m', rs, rm, hf, k⟩ => ?_⟩
  obtain ⟨x, h3, hf⟩ := bind_some hf
  obtain ⟨y, h4, hf⟩ := bind_some hf
  obtain ⟨u, h5, h4⟩ := bind_some h4
  obtain ⟨w, h6, h4⟩ := bind_some h4
  cases h4
  cases hf
  refine ⟨ι, ρ, m, x.1, x.2, rs, rm, h3, fun v ι1 H1 l1 rm1 ro1 bd1 => ?_⟩
  obtain ⟨ι1', l1', rm1', rv1, rs1, _, _⟩ := ro1.val l1 rm1 (rs.mono l1)
  refine ⟨ι1', ρ, _, u.1, u.2, rs1, rm1', h5, fun v2 ι2 H2 l2 rm2 ro2 bd2 => ?_⟩
  obtain ⟨ι2', l2', rm2', rv2, rs2, _, _⟩ := ro2.val l2 rm2 (rs1.mono l2)
  refine h2 σ H2 _ ⟨ι2', ρ, _, w.1, w.2, rs2, rm2', h6, fun ps ι3 H3 l3 rm3 rvs => ?_⟩
  exact k ((v, v2) :: ps) ι3 H3 (l1'.tr rm1' (l2'.tr rm2' l3)) rm3 (.cons ((rv1.mono l2').mono l3) (.cons (rv2.mono l3) rvs))
theorem eqb_key {d e : D} {k j : Key} (h1 : key1 d = some k) (h2 : key1 e = some j) (h : d.eqb e = false) : k ≠ j := by
  intro z
  subst z
  rw [key1_kD h1, key1_kD h2] at h
  cases k <;> simp [kD, D.eqb] at h
theorem pairs_rel {K : PySem.W.Frag} {ι : List Addr} {H : Hp} : ∀ (n : Nat) (ds : List D), ds.length ≤ n → ∀ {ps : List (V × V)} {kvs : List (D × D)}, RVs K ι H ds (flatP ps) → pairsK ds = some kvs →
    ∃ ks : List (Key × V), ps = ks.map (fun kv => (kV kv.1, kv.2)) ∧ Paired (fun (p : D × D) (q : Key × V) => p.1 = kD q.1 ∧ RV K ι H p.2 q.2) kvs ks ∧ (ks.map (·.1)).Nodup ∧ (∀ p ∈ kvs, ∃ q ∈ ks, p.1 = kD q.1) ∧ ∀ q ∈ ks, ∃ p ∈ kvs, p.1 = kD q.1
  | _, [], _, ps, kvs, r, h => by
    cases ps with
    | nil => cases h; exact ⟨[], rfl, .nil, by simp, by simp, by simp⟩
    | cons p ps => cases r
  | _, [_], _, ps, kvs, r, h => by cases h
  | 0, _ :: _ :: _, hn, _, _, _, _ => by simp at hn
  | n + 1, d :: e :: r0, hn, ps, kvs, r, h => by
    rw [pairsK] at h
    obtain ⟨k, h1, h⟩ := bind_some h
    obtain ⟨qs, h2, h⟩ := bind_some h
    split at h
    · rename_i hall
      cases h
      cases ps with
      | nil => cases r
      | cons p ps =>
        cases r with
        | cons ra r =>
          cases r with
          | cons rb r =>
            obtain ⟨ks, e1, e2, e3, e4, e5⟩ := pairs_rel n r0 (by simp at hn; omega) r h2
            subst e1
            obtain ⟨pa, pb⟩ := p
            have hk := key1_kD h1
            subst hk
            refine ⟨(k, pb) :: ks, ?_, .cons ⟨rfl, rb⟩ e2, ?_, ?_, ?_⟩
            · cases k with
              | inl i => cases ra; rfl
              | inr i => cases ra; rfl
            · rw [List.map_cons, List.nodup_cons]
              refine ⟨fun hm => ?_, e3⟩
              obtain ⟨q, hq, eq⟩ := List.mem_map.mp hm
              obtain ⟨p', hp', ep'⟩ := e5 q hq
              rw [List.all_eq_true] at hall
              have := hall p'.1 (List.mem_map_of_mem hp')
              rw [ep', eq] at this
              cases k <;> simp [kD, D.eqb] at this
            · intro p hp
              rcases List.mem_cons.mp hp with rfl | hp
              · exact ⟨_, List.mem_cons_self, rfl⟩
              · obtain ⟨q, hq, e⟩ := e4 p hp; exact ⟨q, List.mem_cons_of_mem _ hq, e⟩
            · intro q hq
              rcases List.mem_cons.mp hq with rfl | hq
              · exact ⟨_, List.mem_cons_self, rfl⟩
              · obtain ⟨p, hp, e⟩ := e5 q hq; exact ⟨p, List.mem_cons_of_mem _ hp, e⟩
    · cases h
theorem mergeK_nd : ∀ (ks acc : List (Key × V)), ((acc ++ ks).map (·.1)).Nodup → mergeK acc ks = acc ++ ks
  | [], acc, _ => by simp [mergeK]
  | q :: ks, acc, h => by
    have hn : valV acc q.1 = none := by
      cases e : valV acc q.1 with
      | none => rfl
      | some v =>
        exfalso
        have h1 := valV_any q.1 acc
        rw [e] at h1
        simp only [Option.isSome_some, List.any_eq_true, decide_eq_true_eq] at h1
        obtain ⟨p, hp, ep⟩ := h1
        rw [List.map_append, List.nodup_append] at h
        exact h.2.2 p.1 (List.mem_map_of_mem hp) q.1 (by simp) ep
    have e : mergeK acc (q :: ks) = mergeK (acc ++ [q]) ks := by
      show mergeK (putK acc q.1 q.2) ks = _
      rw [putK_new _ hn]
    rw [e, mergeK_nd ks (acc ++ [q]) (by simpa using h)]
    simp
theorem paired_len {α β : Type} {R : α → β → Prop} {xs : List α} {ys : List β} (h : Paired R xs ys) : xs.length = ys.length := by
  induction h with
  | nil => rfl
  | cons _ _ ih => simp [ih]
theorem se_kd {X : Cx} {pos : Pos} {keys : List (Option Expr)} {values : List Expr} {fr : A} (h : SPs X pos keys values fr) (hall : keys.all (·.isSome) = true) (hl : keys.length = values.length) (h0 : keys ≠ []) (h15 : keys.length ≤ 15) : SE X (.Dict keys values pos) (eKd fr) := by
  obtain ⟨trs, h1, h2⟩ := h
  refine pe_imp (pe_disp h1 hall hl h0 h15) fun σ H Q ⟨ι, ρ, m, z, m', rs, rm, hf, k⟩ => ?_
  obtain ⟨x, h3, hf⟩ := bind_some hf
  obtain ⟨kvs, h4, hf⟩ := bind_some hf
  split at hf
  · rename_i hk15
    cases hf
    intro p hp
    have hpi : p ∉ ι := fun z => rm.there p z hp
    refine h2 σ _ _ ⟨ι, ρ, m, x.1, x.2, rs.mono (Le.newAt hp), rm.newAt hp, h3, fun ps ι2 H2 l2 rm2 rvs => ?_⟩
    have e2 : H2 p = some (.dK []) := l2.keep p _ upd_same (.inr hpi)
    have hp2 : p ∉ ι2 := fun hm => by
      obtain ⟨nw, e, f⟩ := l2.pre
      rw [e] at hm
      rcases List.mem_append.mp hm with z | z
      · exact hpi z
      · have := f p z; rw [upd_same] at this; cases this
    obtain ⟨ks, e3, e4, e5, _, _⟩ := pairs_rel _ x.1 (Nat.le_refl _) rvs h4
    refine ⟨e2, ks, e3, by rw [← paired_len e4]; exact hk15, ?_⟩
    rw [mergeK_nd ks [] (by simpa using e5), List.nil_append]
    have mu : Mut (H2 p) := by rw [e2]; trivial
    have ku : Kp ι2 H2 ι2 (upd H2 p (.dK ks)) := Kp.upd mu
    refine fun bd => k (.ref p) ι2 _ ?_ ?_ ⟨p, rfl, hp, hp2, ks, upd_same, Paired.mapP e4 fun _ _ z => ⟨z.1, z.2.kp ku⟩⟩ bd
    · obtain ⟨nw, e, f⟩ := l2.pre
      refine ⟨⟨nw, e, fun a ha => ?_⟩, fun a o h c => ?_⟩
      · have := f a ha
        by_cases z : a = p
        · subst z; exact hp
        · rw [upd_ne z] at this; exact this
      · have z : a ≠ p := ne_of_none h hp
        rw [upd_ne z]
        exact l2.keep a o (by rw [upd_ne z]; exact h) c
    · exact ⟨rm2.nd, rm2.len, fun n b e => let ⟨a, e1, rb⟩ := rm2.ob n b e; ⟨a, e1, rb.kp ku (upd_ne fun z => by subst z; exact hp2 (List.mem_of_getElem? e1))⟩⟩
  · cases hf
end Q
namespace Q
open PySem L2 DV
/-! ### {k: v} by its entries -/
def tDispR (K : PySem.W.Frag) (tk tv : TE) : TE := fun σ H Q => ∀ p, H p = none → (p == sysModules) = false → tk σ (upd H p (RawO p #[])) fun y H1 => tv σ H1 fun v H2 => H2 p = some (RawO p #[]) ∧ ∃ k, KN K H2 k y ∧ k.depth ≤ 8 ∧
  ∀ es', Paired (EntV K H2) [(k, v)] es'.toList → Q (.ref p) (upd H2 p (RawO p es'))
theorem pe_dispR {X : Cx} {a b : Expr} {tk tv : TE} {pos : Pos} (hu : X.A.units + 65 < cLine) (ha : PE X a tk) (hb : PE X b tv) : PE X (.Dict [some a] [b] pos) (tDispR X.K tk tv) := by
  refine ⟨fun pins s σ H Q I q => ?_⟩
  have hn := I.hok.fresh (Nat.le_refl s.heap.objs.size)
  have I1 := I.laid (a := s.heap.objs.size) (o := RawO s.heap.objs.size #[]) (h' := s.heap.push { cls := .type "dict", data := .dict #[] }) (t' := s.toks) (fun _ _ q => Heap.get?_push_of_some _ q) (Nat.le_refl _) (rawO_new ⟨_, Heap.get?_push_size _ rfl, ⟨rfl, rfl, rfl⟩, rfl⟩)
  have hbig : (s.heap.objs.size == sysModules) = false := beq_eq_false_iff_ne.mpr (Ne.symm (Nat.ne_of_lt I.big))
  rw [arm_eval_Dict, zip_pairTrees [some a] [b] X.env pos rfl rfl, dictDisplay_pairs (pairTrees [some a] [b] X.env pos) (by intro z; cases z) (by show (1 : Nat) < 17; decide)]
  refine wpAny_bind (wpAny_standAt (wpAny_bind ?_))
  unfold subDict
  refine wpAny_bind (wpAny_alloc ?_)
  refine wpAny_bind (wpAny_holding ?_)
  rw [if_pos (by show (1 : Nat) ≤ 15; decide)]
  refine wpAny_bind (pairTrees_cons_walk (thn (ha.run pins _ σ _ _ I1 (q _ hn hbig)) fun u s1 ⟨y, H1, I2, ry, q1⟩ => thn (hb.run pins s1 σ H1 _ I2 q1) fun w2 s2 ⟨v, H2, I3, rv, hp2, k, hk, hd, q2⟩ => pairTrees_nil_walk ?_))
  refine wpAny_holding ?_
  refine wpAny_bind ?_
  rw [List.forIn_cons]
  obtain ⟨es, xs, e1, hm, hp⟩ := dok_of I3 (ks := []) ⟨#[], hp2, .nil, by simp, by simp, hbig⟩
  cases hp
  refine wpAny_bind (wpAny_bind (dset (k := k) (by omega) ⟨hk.is I3 ry, hd⟩ hm (by rw [sizeLine_eq]; decide) fun h' es' hm' hs => wpAny_pure ?_))
  simp only [List.forIn_nil]
  have r' := hm'.raw
  have he : ∃ u, h'.get? s.heap.objs.size = some u := let ⟨o, ho, _⟩ := r'; ⟨o, ho⟩
  refine wpAny_pure (wpAny_pure (wpAny_pure (wpAny_pure ?_)))
  have hse := sto_ents (ks := []) .nil hk ry hd rv hm'
  exact ⟨.ref s.heap.objs.size, upd H2 s.heap.objs.size (RawO s.heap.objs.size es'), I3.write (e := s.heap.objs.size) (t' := s2.toks + k.draws) (by rw [hp2]; trivial) (.inl rfl) (fun b u hb hu => (hs.2 b hb).trans hu) he (rawO_new r'), rfl, q2 es' hse⟩
noncomputable def dispF (x y : Out) (m : Mem) : Option (Out × Mem) := (keyOf x).bind fun k => match y with | .v d => some (.o (.dcr [(k, d)]), m) | _ => none
theorem se_disp {X : Cx} {a b : Expr} {fa fb : E} {pos : Pos} {k : Nat} (hr : Room k X.A) (ha : SE X a fa) (hb : SE X b fb) : SE X (.Dict [some a] [b] pos) (eBin dispF fa fb) := pe_imp (pe_dispR (u65 hr) ha hb) fun σ H Q ⟨ι, ρ, m, z, m', rs, rm, hf, k⟩ => by
  obtain ⟨x, h1, hf⟩ := bind_some hf
  obtain ⟨y, h2, hf⟩ := bind_some hf
  obtain ⟨d, h3, hf⟩ := bind_some hf
  split at hf
  · rename_i dv ey
    cases hf
    intro p hp hsm
    have hpi : p ∉ ι := fun z => rm.there p z hp
    refine ⟨ι, ρ, m, x.1, x.2, rs.mono (Le.newAt hp), rm.newAt hp, h1, fun v ι1 H1 l1 rm1 ro1 bd1 => ?_⟩
    refine ⟨ι1, ρ, x.2, y.1, y.2, (rs.mono (Le.newAt hp)).mono l1, rm1, h2, fun u ι2 H2 l2 rm2 ro2 bd2 => ?_⟩
    have l12 := l1.tr rm1 l2
    have e2 : H2 p = some (RawO p #[]) := l12.keep p _ upd_same (.inr hpi)
    have hp2 : p ∉ ι2 := fun hm => by
      obtain ⟨nw, e, f⟩ := l12.pre
      rw [e] at hm
      rcases List.mem_append.mp hm with z | z
      · exact hpi z
      · have := f p z; rw [upd_same] at this; cases this
    obtain ⟨nk', e3, e4, e5⟩ := key_at (ro1.mono l2) h3
    subst e3
    rw [ey] at ro2
    have rv : RV X.K ι2 H2 dv u := ro2
    refine ⟨e2, nk', e4, e5, fun es' hes bd => ?_⟩
    have mu : Mut (H2 p) := by rw [e2]; trivial
    have ku : Kp ι2 H2 ι2 (upd H2 p (RawO p es')) := Kp.upd mu
    refine k (.ref p) ι2 _ ?_ ?_ ⟨p, rfl, hp, hp2, [(nk', u)], ⟨es', upd_same, Paired.mapP hes fun x e ⟨⟨kv, z1, z2⟩, z3⟩ => ⟨⟨kv, z1.kp ku, z2⟩, z3⟩, by simp, by rw [sizeLine_eq]; simp, hsm⟩, .cons ⟨rfl, rv.kp ku⟩ .nil⟩ bd
    · obtain ⟨nw, e, f⟩ := l12.pre
      refine ⟨⟨nw, e, fun a ha => ?_⟩, fun a o h c => ?_⟩
      · have := f a ha
        by_cases z : a = p
        · subst z; exact hp
        · rw [upd_ne z] at this; exact this
      · have z : a ≠ p := ne_of_none h hp
        rw [upd_ne z]
        exact l12.keep a o (by rw [upd_ne z]; exact h) c
    · exact ⟨rm2.nd, rm2.len, fun n b e => let ⟨a, e1, rb⟩ := rm2.ob n b e; ⟨a, e1, rb.kp ku (upd_ne fun z => by subst z; exact hp2 (List.mem_of_getElem? e1))⟩⟩
  · cases hf
/-! ### dicts with keys that are numbers or texts: d[k], d[k] = v -/
def kdOf (x : Out) (m : Mem) : Option (List (D × D)) := match x with
  | .v (.ref n) => (match m[n]? with | some (.dct a) => some a | _ => none)
  | _ => none
noncomputable def kixF (x y : Out) (m : Mem) : Option (Out × Mem) := (kdOf x m).bind fun kvs => match y with
  | .v d => (key1 d).bind fun _ => (dlook kvs d).map fun v => (.v v, m)
  | _ => none
theorem klook {K : PySem.W.Frag} {ι : List Addr} {H : Hp} {kvs : List (D × D)} {ks : List (Key × V)} {k : Key} (h : Paired (fun (p : D × D) (q : Key × V) => p.1 = kD q.1 ∧ RV K ι H p.2 q.2) kvs ks) :
    (dlook kvs (kD k) = none ∧ valV ks k = none) ∨ ∃ v u, dlook kvs (kD k) = some v ∧ valV ks k = some u ∧ RV K ι H v u := by
  induction h with
  | nil => exact .inl ⟨rfl, rfl⟩
  | @cons p q ps qs h _ ih =>
    by_cases e : q.1 = k
    · right
      refine ⟨p.2, q.2, ?_, valV_pos e, h.2⟩
      unfold dlook
      rw [List.find?_cons_of_pos (by simp [h.1, e])]; rfl
    · have e2 : ¬ p.1 = kD k := by rw [h.1]; exact fun z => e (kD_inj z)
      have e3 : dlook (p :: ps) (kD k) = dlook ps (kD k) := by
        unfold dlook
        rw [List.find?_cons_of_neg (by simp [e2])]
      rw [e3, valV_neg e]
      exact ih
theorem ksto {K : PySem.W.Frag} {ι : List Addr} {H : Hp} {kvs : List (D × D)} {ks : List (Key × V)} {k : Key} {v : D} {u : V} (h : Paired (fun (p : D × D) (q : Key × V) => p.1 = kD q.1 ∧ RV K ι H p.2 q.2) kvs ks) (hv : RV K ι H v u) :
    Paired (fun (p : D × D) (q : Key × V) => p.1 = kD q.1 ∧ RV K ι H p.2 q.2) (dsto kvs (kD k) v) (putK ks k u) := by
  unfold dsto putK
  have hb : (ks.any fun kv => decide (kv.1 = k)) = (dlook kvs (kD k)).isSome := by
    rw [valV_any]
    rcases klook (k := k) h with ⟨h1, h2⟩ | ⟨_, _, h1, h2, _⟩ <;> rw [h1, h2] <;> rfl
  rw [hb]
  by_cases hs : (dlook kvs (kD k)).isSome = true
  · rw [if_pos hs, if_pos hs]
    clear hb hs
    induction h with
    | nil => exact .nil
    | @cons p q ps qs h _ ih =>
      refine .cons ?_ ih
      by_cases e : q.1 = k
      all_goals simp only
      · rw [if_pos e, if_pos (by rw [h.1, e])]; exact ⟨h.1, hv⟩
      · rw [if_neg e, if_neg (by rw [h.1]; exact fun z => e (kD_inj z))]; exact h
  · rw [if_neg hs, if_neg hs]
    clear hb hs
    induction h with
    | nil => exact .cons ⟨rfl, hv⟩ .nil
    | cons h _ ih => exact .cons h ih
theorem key1_v {K : PySem.W.Frag} {ι : List Addr} {H : Hp} {d : D} {v : V} {k : Key} (r : RV K ι H d v) (h : key1 d = some k) : v = kV k := by
  cases d <;> simp [key1] at h <;> subst h <;> cases r <;> rfl
theorem se_kix {X : Cx} {a b : Expr} {fa fb : E} {pos : Pos} {k : Nat} (hr : Room k X.A) (ha : SE X a fa) (hb : SE X b fb) (hs : NoSl b := by exact fun _ _ => rfl) : SE X (.Subscript a b pos) (eBin kixF fa fb) :=
  pe_imp (pe_dget (hu_of hr) ha hb hs) fun σ H Q ⟨ι, ρ, m, z, m', rs, rm, hf, k⟩ => by
  obtain ⟨x, h1, hf⟩ := bind_some hf
  obtain ⟨y, h2, hf⟩ := bind_some hf
  obtain ⟨kvs, h3, hf⟩ := bind_some hf
  refine ⟨ι, ρ, m, x.1, x.2, rs, rm, h1, fun v ι1 H1 l1 rm1 ro1 bd1 => ?_⟩
  refine ⟨ι1, ρ, x.2, y.1, y.2, rs.mono l1, rm1, h2, fun u ι2 H2 l2 rm2 ro2 bd2 => ?_⟩
  split at hf
  · rename_i d ey
    obtain ⟨kk, h4, hf⟩ := bind_some hf
    obtain ⟨dv, h5, h6⟩ := Option.map_eq_some_iff.mp hf
    cases h6
    rw [ey] at ro2
    have ru := key1_v ro2 h4
    subst ru
    have ro1' := ro1.mono l2
    unfold kdOf at h3
    split at h3
    · rename_i n ex
      split at h3
      · rename_i kvs' hm; cases h3
        rw [ex] at ro1'
        cases ro1' with
        | ref e =>
          obtain ⟨a, e1, ks, e2, r⟩ := rm2.ob _ _ hm
          rw [e] at e1; cases e1
          rw [key1_kD h4] at h5
          rcases klook (k := kk) r with ⟨q1, q2⟩ | ⟨v0, u0, q1, q2, rr⟩
          · rw [q1] at h5; cases h5
          · rw [q1] at h5; cases h5
            exact ⟨_, u0, rfl, by have := DGet.k (k := kk) e2; rw [q2] at this; exact this, fun bd => k _ ι2 H2 (l1.tr rm1 l2) rm2 rr bd⟩
      · cases h3
    · cases h3
  · cases hf
noncomputable def kstoF (o i : Out) (d : D) (m : Mem) : Option Mem := match o with
  | .v (.ref n) => (match m[n]? with
    | some (.dct kvs) => (match i with | .v kd => (key1 kd).bind fun _ => if fits (kvs.length + 1) then some (m.set n (.dct (dsto kvs kd d))) else none | _ => none)
    | _ => none)
  | _ => none
@[simp] noncomputable def sKput (e o i : E) (ρ : Env) (m : Mem) : Option R := (e ρ m).bind fun x => (o ρ (val x.1 x.2).2).bind fun y => (i ρ y.2).bind fun z => (kstoF y.1 z.1 (val x.1 x.2).1 z.2).bind fun m' => some (.nx ρ m')
theorem set_dct {K : PySem.W.Frag} {ι : List Addr} {H : Hp} {m : Mem} {n : Nat} {a : Addr} {ks : List (Key × V)} {kvs' : List (D × D)} {ks' : List (Key × V)} (rm : RM K ι H m) (e : ι[n]? = some a) (h : H a = some (.dK ks))
    (r : Paired (fun (p : D × D) (q : Key × V) => p.1 = kD q.1 ∧ RV K ι H p.2 q.2) kvs' ks') : Le ι H ι (upd H a (.dK ks')) ∧ RM K ι (upd H a (.dK ks')) (m.set n (.dct kvs')) := by
  have mu : Mut (H a) := by rw [h]; trivial
  have ku : Kp ι H ι (upd H a (.dK ks')) := Kp.upd mu
  have hi : a ∈ ι := List.mem_of_getElem? e
  refine ⟨⟨⟨[], by simp, by simp⟩, fun b u hb c => ?_⟩, rm.nd, by rw [List.length_set]; exact rm.len, fun j b hb => ?_⟩
  · by_cases z : b = a
    · subst z
      rcases c with c | c
      · rw [hb] at mu; exact (nofz mu c).elim
      · exact absurd hi c
    · rw [upd_ne z]; exact hb
  · by_cases hj : n = j
    · subst hj
      have hl : n < m.length := by rw [← rm.len]; exact (List.getElem?_eq_some_iff.mp e).1
      rw [List.getElem?_set_self hl] at hb
      cases hb
      exact ⟨a, e, ks', upd_same, Paired.mapP r fun _ _ z => ⟨z.1, z.2.kp ku⟩⟩
    · rw [List.getElem?_set_ne hj] at hb
      obtain ⟨b', e1, rb⟩ := rm.ob j b hb
      refine ⟨b', e1, rb.kp ku (upd_ne fun z => hj ?_)⟩
      subst z
      have h1 := (List.getElem?_eq_some_iff.mp e)
      have h2 := (List.getElem?_eq_some_iff.mp e1)
      exact nd_inj rm.nd h1.1 h2.1 (h1.2.trans h2.2.symm)
theorem ss_kput {X : Cx} {st : Stmt} {fe fo fi : E} (h0 : PS X st (sDPut (tE X.K fo) (tE X.K fi) (tE X.K fe))) : SS X st (sKput fe fo fi) := ps_imp h0 fun D σ H ⟨ι, ρ, m, r, rs, rm, hf, k⟩ => by
  obtain ⟨x, h1, hf⟩ := bind_some hf
  obtain ⟨y, h2, hf⟩ := bind_some hf
  obtain ⟨z, h3, hf⟩ := bind_some hf
  obtain ⟨m', h4, hf⟩ := bind_some hf
  cases hf
  refine ⟨ι, ρ, m, x.1, x.2, rs, rm, h1, fun v ι1 H1 l1 rm1 ro1 bd1 => ?_⟩
  obtain ⟨ι1', l1', rm1', rv1, rs1, _, _⟩ := ro1.val l1 rm1 (rs.mono l1)
  refine ⟨ι1', ρ, _, y.1, y.2, rs1, rm1', h2, fun v2 ι2 H2 l2 rm2 ro2 bd2 => ?_⟩
  refine ⟨ι2, ρ, y.2, z.1, z.2, rs1.mono l2, rm2, h3, fun v3 ι3 H3 l3 rm3 ro3 bd3 => ?_⟩
  unfold kstoF at h4
  split at h4
  · rename_i n ey
    split at h4
    · rename_i kvs hm
      split at h4
      · rename_i kd ez
        obtain ⟨kk, h5, h4⟩ := bind_some h4
        split at h4
        · rename_i hz; cases h4
          have ro2' := ro2.mono l3
          rw [ey] at ro2'
          rw [ez] at ro3
          have ru := key1_v ro3 h5
          subst ru
          cases ro2' with
          | ref e =>
            obtain ⟨a, e1, ks, e2, r⟩ := rm3.ob _ _ hm
            rw [e] at e1; cases e1
            have hkd := key1_kD h5
            subst hkd
            obtain ⟨l4, rm4⟩ := set_dct rm3 e e2 (ksto (k := kk) r ((rv1.mono l2).mono l3))
            exact ⟨_, _, rfl, DPut.k e2 (by rw [← paired_len r]; exact hz), k σ ι3 _ (l1'.tr rm1' (l2.tr rm2 (l3.tr rm3 l4))) (((rs1.mono l2).mono l3).mono l4) rm4⟩
        · cases h4
      · cases h4
    · cases h4
  · cases h4
end Q
/-! xs.index(x), xs a list of data -/
namespace Q
open PySem L2
def idxLF (x y : Out) (m : Mem) : Option (Out × Mem) := (lstOf x m).bind fun ds => match y with
  | .v a => if okL 63 ds = true ∧ okD 64 a = true then (ds.findIdx? fun d => d.eqb a).map fun j => (.v (.int (j : Nat)), m) else none
  | _ => none
theorem okL_mem' {n : Nat} : ∀ {xs : List D} {d : D}, okL n xs = true → d ∈ xs → okD n d = true
  | [], _, _, h => by simp at h
  | x :: xs, d, h, hd => by
    rw [okL, Bool.and_eq_true] at h
    rcases List.mem_cons.mp hd with rfl | hd
    · exact h.1
    · exact okL_mem' h.2 hd
theorem idxLU {K : PySem.W.Frag} : R2S K (fun v u H Q => rIndexD K v [u] H Q) idxLF := by
  intro ι H H0 m x y z vx vy m' Q rm bd rx ry hf k
  obtain ⟨ds, h1, hf⟩ := bind_some hf
  cases y with
  | o b => cases hf
  | v a =>
    simp only at hf
    split at hf
    · rename_i hc
      obtain ⟨j, e1, e2⟩ := Option.map_eq_some_iff.mp hf
      cases e2
      obtain ⟨p, vs, rfl, hs, r⟩ := lst_at rm rx h1
      have hd := RVs.dp r hc.1
      have ha : Dp K H vy a.pd := RV.dp ry hc.2
      have hfl : okD 64 (.fl ds) = true := by rw [okD]; exact hc.1
      have hsh := shaped_of hfl
      rw [D.pd] at hsh
      obtain ⟨hj, ht, hno⟩ := List.findIdx?_eq_some_iff_getElem.mp e1
      have hget : ∀ (i : Nat) (hi : i < ds.length), (pdL ds)[i]? = some ds[i].pd := by
        intro i hi
        have : ∀ (l : List D) (i : Nat) (hi : i < l.length), (pdL l)[i]? = some l[i].pd := by
          intro l
          induction l with
          | nil => intro i hi; simp at hi
          | cons d l ih =>
            intro i hi
            rw [pdL]
            cases i with
            | zero => rfl
            | succ i => simpa using ih i (by simpa using hi)
        exact this ds i hi
      refine ⟨p, vy, a.pd, pdL ds, j, ds[j].pd, rfl, rfl, .lst (.inl (.inl hs)) hd, ha, hsh, shaped_of hc.2, hget j hj, ?_, fun i z' hi hz => ?_, k _ ι H (Le.refl _ _) rm (RV.int _)⟩
      · rw [pd_eqv ds[j] a 63 64 (okL_mem' hc.1 (List.getElem_mem hj)) hc.2]; exact ht
      · have hi2 : i < ds.length := by omega
        rw [hget i hi2] at hz
        cases hz
        rw [pd_eqv ds[i] a 63 64 (okL_mem' hc.1 (List.getElem_mem hi2)) hc.2]
        simpa using hno i hi
    · cases hf
theorem idxL_ {X : Cx} {e : Expr} {fa fb : E} (h0 : PE X e (tBM X.K "list" (rIndexD X.K) (tE X.K fa) (tCons (tE X.K fb) tNil))) : SE X e (eMt1 "list" idxLF fa fb) := se_mt1 h0 idxLU.n
end Q
/-! a tuple, some times -/
namespace Q
open PySem PySem.Spec PyProof.Rows L2
theorem tuple_mul1 (l : Addr) (items : Array Value) (n : Nat) (dd : Option Addr) (sl : Array (Option Value)) (x : Int) (u : Tok) (c0 : (decide (x < -(2 ^ 63)) || decide (x ≥ 2 ^ 63)) = false) (c1 : (items.isEmpty || x == 1) = true) :
    Meets (Builtin.«tuple.__mul__» ⟨[.ref l, .int x u], []⟩) (fun _ R s => s.heap.get? l = some { cls := .type "tuple", dict := dd, data := .seq items n, slots := sl } ∧
      R (.ok (.ret (Value.ref l))) s) :=
  .of_wp fun prog w A R s h => by
    obtain ⟨hp, g, d, tk, os⟩ := s
    obtain ⟨hl, h⟩ := h
    have f1 := AutoSeq1.idx_int
    wp_walk using wpAny_loadPart' hl
    repeat (first
      | (refine wpAny_ite_false (decide_eq_false (by rw [c0]; exact Bool.false_ne_true)) ?_; wp_walk using wpAny_loadPart' hl)
      | (refine wpAny_ite_true (decide_eq_true (by rw [c1])) ?_; wp_walk using wpAny_loadPart' hl))
    exact ⟨_, rfl, h⟩
def rRepN (K : PySem.W.Frag) : R2 := fun x y H Q => ∃ l k xs, x = .ref l ∧ y = .int k ∧ SqT K H l xs ∧ xs ≠ [] ∧ 1 ≤ k ∧ k ≤ 1000 ∧ xs.length ≤ 1000 ∧ (k = 1 → Q (.ref l) H) ∧ (2 ≤ k → TpN H (List.replicate k.toNat xs).flatten Q)
section
variable {X : Cx}
theorem op_repN : OpR X (binaryOp .Mult) (rRepN X.K) := by
  intro pins s σ H x y v u Q I rx ry h
  obtain ⟨l, k, xs, rfl, rfl, hT, hne, h1, h2, hz, q1, q⟩ := h
  cases rx
  obtain ⟨t, rfl⟩ := ry
  obtain ⟨its, r, ⟨⟨cls, dd, data, sl⟩, ho, hc, n, hd⟩, hs⟩ := I.tuple hT
  simp only at hc hd
  subst hc hd
  have hle : its.length = xs.length := r.length.symm
  have hn : its ≠ [] := fun e => hne (by
    rw [e] at hle
    exact List.eq_nil_of_length_eq_zero hle.symm)
  have hi : its.toArray.isEmpty = false := by
    cases its with
    | nil => exact absurd rfl hn
    | cons a b => rfl
  have c0 : (decide (k < -(2 ^ 63)) || decide (k ≥ 2 ^ 63)) = false := by
    rw [decide_eq_false (by omega), decide_eq_false (by omega)] <;> rfl
  by_cases hk1 : k = 1
  · have c1 : (its.toArray.isEmpty || k == 1) = true := by rw [hi, Bool.false_or, hk1]; rfl
    refine wpAny_binaryOp_repeat_ref (T := "tuple") (U := "int") (by decide) ⟨_, ho, rfl⟩ (fun s' => typeIs_int s' k t) noFill_tuple_mul F.fills_int_mul F.slot_int_rmul repeat_tuple F.slot_int_index.lookup
      (call_meets F.slot_int_rmul (typeIs_int s k t) F.entry_int_rmul (F.args_int_rmul_2 _ _) (int_rmul_tuple k t l its.toArray n dd sl)
        ⟨ho, rfl, ⟨_, ho, rfl⟩, call_meets F.slot_tuple_mul ⟨_, ho, rfl⟩ F.entry_tuple_mul (F.args_tuple_mul_2 _ _) (tuple_mul1 l its.toArray n dd sl k t c0 c1) ⟨ho, ?_⟩⟩)
    exact ⟨.ref l, H, I, rfl, q1 hk1⟩
  have hsz0 : its.toArray.size = xs.length := by rw [List.size_toArray, hle]
  have hm : ((its.toArray.size : Nat) : Int) * k ≤ 1000000 := by
    rw [hsz0]
    have a1 : ((xs.length : Nat) : Int) * k ≤ 1000 * k := Int.mul_le_mul_of_nonneg_right (by omega) (by omega)
    omega
  have flen : (List.replicate k.toNat its).flatten.length ≤ sizeLine := by
    rw [PyProof.Rows.lm_len_rep_flat, hle, sizeLine_eq]
    have a1 : k.toNat * xs.length ≤ 1000 * 1000 := Nat.mul_le_mul (by omega) hz
    omega
  have c1 : (its.toArray.isEmpty || k == 1) = false := by
    rw [hi, Bool.false_or]
    exact beq_eq_false_iff_ne.mpr (by omega)
  have c2 : (decide (k ≤ 0) || its.toArray.isEmpty) = false := by
    rw [hi, Bool.or_false]
    exact decide_eq_false (by omega)
  have c4 : Builtin.Tuple.tupleTooMany (((its.toArray.size : Nat) : Int) * k) = false := by
    unfold Builtin.Tuple.tupleTooMany
    rw [sizeLine_eq]
    exact decide_eq_false (by omega)
  refine wpAny_binaryOp_repeat_ref (T := "tuple") (U := "int") (by decide) ⟨_, ho, rfl⟩ (fun s' => typeIs_int s' k t) noFill_tuple_mul F.fills_int_mul F.slot_int_rmul repeat_tuple F.slot_int_index.lookup
    (call_meets F.slot_int_rmul (typeIs_int s k t) F.entry_int_rmul (F.args_int_rmul_2 _ _) (int_rmul_tuple k t l its.toArray n dd sl)
      ⟨ho, rfl, ⟨_, ho, rfl⟩, call_meets F.slot_tuple_mul ⟨_, ho, rfl⟩ F.entry_tuple_mul (F.args_tuple_mul_2 _ _) (tuple_mulW l its.toArray n dd sl k t c0 c1 c2 (by omega) c4 (by rw [size_rep, List.size_toArray]; exact flen)) ⟨ho, ?_⟩⟩)
  rw [size_rep]
  refine ⟨.ref s.heap.objs.size, _, I.laid (t' := s.toks) (o := .frz _ (.tup (List.replicate k.toNat xs).flatten)) (fun b ob q => Heap.get?_push_of_some _ q) (Nat.le_refl _) (tup_ok ?_ (r.rep k.toNat) rfl (Heap.get?_push_size _ rfl)), rfl, q (by omega) _ _ (I.hok.fresh (Nat.le_refl _)) rfl⟩
  rw [PyProof.Rows.lm_len_rep_flat, sizeLine_eq]
  have a1 : k.toNat * xs.length ≤ 1000 * 1000 := Nat.mul_le_mul (by omega) hz
  omega
end
noncomputable def mulTF (x : Out) (y : Out) (m : Mem) : Option (Out × Mem) := match x, y with
  | .v (.tup a), .v (.int k) => if a ≠ [] ∧ 1 ≤ k ∧ k ≤ 1000 ∧ a.length ≤ 1000 then some (.v (.tup (List.replicate k.toNat a).flatten), m) else none
  | _, _ => none
theorem RVs.nil_iff {K : PySem.W.Frag} {ι : List Addr} {H : Hp} {ds : List D} {vs : List V} (r : RVs K ι H ds vs) : vs = [] ↔ ds = [] := by
  cases r with
  | nil => simp
  | cons _ _ => simp
theorem mulTU {K : PySem.W.Frag} : R2S K (rRepN K) mulTF := by
  intro ι H H0 m x y z vx vy m' Q rm bd rx ry hf k
  unfold mulTF at hf
  split at hf
  · split at hf
    · rename_i a n hj
      cases hf
      cases ry
      cases rx with
      | tup ht r =>
        rename_i p vs
        refine ⟨p, n, vs, rfl, rfl, ht.sq, fun e => hj.1 (r.nil_iff.mp e), hj.2.1, hj.2.2.1, by rw [← r.length]; exact hj.2.2.2, fun e => ?_, fun e q o hq ho => ?_⟩
        · refine k _ ι H (Le.refl _ _) rm ?_
          subst e
          have : (List.replicate (1 : Int).toNat a).flatten = a := by simp [List.replicate]
          rw [this]
          exact RV.tup ht r
        · exact k _ ι _ (Le.newAt hq) (rm.newAt hq) (RV.tup (.inl ⟨o, upd_same, ho⟩) ((r.rep _).kp (Kp.newAt hq)))
    · cases hf
  · cases hf
theorem mulT_ {X : Cx} {a b : Expr} {pos : Pos} {fa fb : E} (ha : SE X a fa) (hb : SE X b fb) : SE X (.BinOp a .Mult b pos) (eBin mulTF fa fb) := se_op op_repN mulTU ha hb
theorem mulT_one {d : D} {n : Nat} (hn : 0 < n) (hn2 : n ≤ 1000) (M : Mem) : mulTF (.v (.tup [d])) (.v (.int (n : Int))) M = some (.v (.tup (List.replicate n d)), M) := by
  have e : (List.replicate n [d]).flatten = List.replicate n d := by
    induction n with
    | zero => rfl
    | succ n ih =>
      by_cases h0 : n = 0
      · subst h0; rfl
      · rw [List.replicate_succ, List.flatten_cons, ih (by omega) (by omega)]; rfl
  have hc : [d] ≠ [] ∧ 1 ≤ (n : Int) ∧ (n : Int) ≤ 1000 ∧ [d].length ≤ 1000 := ⟨by simp, by omega, by omega, by simp⟩
  simp only [mulTF, if_pos hc, Int.toNat_natCast, e]
end Q
/-! str(int); t[::-1] of a tuple -/
namespace Q
open PySem PySem.Spec PyProof.Rows L2
noncomputable def strF (x : Out) (m : Mem) : Option (Out × Mem) := match x with
  | .v (.int i) => if i.natAbs < 2 ^ 40 then some (.v (.str (toString i)), m) else none
  | _ => none
theorem log2_small {n : Nat} (h : n < 2 ^ 40) : n.log2 < 1920 := by
  by_cases h0 : n = 0
  · subst h0; simp
  · have := (Nat.log2_lt h0).mpr h
    omega
theorem strU {K : PySem.W.Frag} : R1S K (fun v H Q => (fun xs H (Q : VK) => ∃ i : Int, xs = [V.int i] ∧ i.natAbs.log2 < 1920 ∧ Q (.str (toString i)) H) [v] H Q) strF := by
  intro ι H H0 m x z vx m' Q rm bd rx hf k
  unfold strF at hf
  split at hf
  · split at hf
    · rename_i h; cases hf; cases rx
      exact ⟨_, rfl, log2_small h, k _ ι H (Le.refl _ _) rm (RV.str _)⟩
    · cases hf
  · cases hf
section
variable {X : Cx} {a : Expr} {fa : E} {p pos : Pos}
theorem str_ (hm : X.mg "str" = none) (ha : SE X a fa) (hg : Gl X "str" := by rfl) (hs : starEach [a] X.env = (false, eval a X.env) :: starEach [] X.env := by rfl) (hpl : (backTo pos (starEach [] X.env)).any (·.1) = false := by rfl) : SE X (.Call (.Name "str" p) [a] [] pos) (eUn strF fa) :=
  se_b1 (pe_callTy call_str_int hg hm (by decide +kernel) (pa1 ha hs) (by decide) (by decide) hs hpl) strU
end
end Q
/-! t[::-1] of a tuple -/
namespace Q
open PySem PySem.Spec PyProof.Rows L2 HT
section
variable {prog : Program} {w : World} {A : Around} {E : Value → Shared → Prop} {s : Shared}
theorem adjust_rev (n : Nat) : Builtin.Slice.sliceAdjust none none (-1) (n : Int) = ((n : Int) - 1, -1) := by
  unfold Builtin.Slice.sliceAdjust
  simp
theorem places_rev (n : Nat) : Builtin.Slice.slicePlaces ((n : Int) - 1) (-1) (-1) = n := by
  unfold Builtin.Slice.slicePlaces
  simp only [show ¬ ((-1 : Int) > 0) by omega, if_false]
  by_cases h : n = 0
  · subst h; simp
  · rw [if_pos (by omega)]
    simp
theorem sliceApplied_rev {sl : Addr} {vl vu vs : Value} {n : Nat} {Q : Int × Int × Nat → Shared → Prop} (hs : s.heap.IsSliceOf sl vl vu vs) (pl : IsPart vl none) (pu : IsPart vu none) (ps : IsPart vs (some (-1)))
    (h : Q ((n : Int) - 1, -1, n) s) : wpAny (model prog w) A (Builtin.Slice.sliceApplied (.ref sl) (pure (n : Int))) Q E s := by
  obtain ⟨os, hos, hcs, hds⟩ := id hs
  unfold Builtin.Slice.sliceApplied Builtin.Slice.sliceFields
  refine wpAny_bind (wpAny_bind (wpAny_field hos hds (x := vl) rfl (wpAny_bind (wpAny_field hos hds (x := vu) rfl (wpAny_bind (wpAny_field hos hds (x := vs) rfl (wpAny_pure ?_)))))))
  refine wpAny_bind (slicePart_ ps ?_)
  show wpAny _ _ (if ((-1 : Int) == 0) = true then _ else _) _ _ s
  rw [if_neg (by decide)]
  refine wpAny_bind (slicePart_ pl (wpAny_bind (slicePart_ pu (wpAny_bind (wpAny_pure ?_)))))
  show wpAny _ _ (match Builtin.Slice.sliceAdjust none none (-1) (n : Int) with | (lo, hi) => pure (lo, (-1 : Int), Builtin.Slice.slicePlaces lo hi (-1))) _ _ s
  rw [adjust_rev n]
  show wpAny _ _ (pure ((n : Int) - 1, (-1 : Int), Builtin.Slice.slicePlaces ((n : Int) - 1) (-1) (-1))) _ _ s
  rw [places_rev]
  exact wpAny_pure h
theorem flm_congr {α β : Type} {f g : α → Option β} : ∀ (xs : List α), (∀ x ∈ xs, f x = g x) → xs.filterMap f = xs.filterMap g
  | [], _ => rfl
  | x :: xs, h => by
    rw [List.filterMap_cons, List.filterMap_cons, h x (by simp), flm_congr xs fun y hy => h y (by simp [hy])]
theorem pick_rev (xs : Array Value) : ((List.range xs.size).filterMap fun (m : Nat) => xs[(((xs.size : Int) - 1) + (m : Int) * (-1)).toNat]?).toArray = xs.toList.reverse.toArray := by
  congr 1
  have e : ∀ m, m ∈ List.range xs.size → xs[(((xs.size : Int) - 1) + (m : Int) * (-1)).toNat]? = (xs.toList.reverse)[m]? := by
    intro m hm
    have hm' := List.mem_range.mp hm
    have : (((xs.size : Int) - 1) + (m : Int) * (-1)).toNat = xs.size - 1 - m := by omega
    rw [this, List.getElem?_reverse (by simpa using hm')]
    simp
  have e2 : (List.range xs.size).filterMap (fun (m : Nat) => xs[(((xs.size : Int) - 1) + (m : Int) * (-1)).toNat]?) = (List.range xs.size).filterMap fun m => (xs.toList.reverse)[m]? := flm_congr _ e
  rw [e2]
  have hl : xs.size = xs.toList.reverse.length := by simp
  rw [hl]
  generalize xs.toList.reverse = ys
  apply List.ext_getElem?
  intro i
  have : (List.range ys.length).filterMap (fun m => ys[m]?) = ys := by
    have h : ∀ k, k ≤ ys.length → (List.range k).filterMap (fun m => ys[m]?) = ys.take k := by
      intro k
      induction k with
      | zero => intro _; simp
      | succ k ih =>
        intro hk
        have hk' : k < ys.length := by omega
        rw [List.range_succ, List.filterMap_append, ih (by omega), List.take_add_one]
        simp [List.getElem?_eq_getElem hk']
    have := h ys.length (Nat.le_refl _)
    rwa [List.take_length] at this
  rw [this]
theorem getItem_tuple_rev {t sl : Addr} {items : Array Value} {vl vu vs : Value} {Q : Value → Shared → Prop} (ht : IsTup s.heap t items) (hs : s.heap.IsSliceOf sl vl vu vs) (pl : IsPart vl none) (pu : IsPart vu none) (ps : IsPart vs (some (-1)))
    (h : Q (.ref s.heap.objs.size) { s with heap := s.heap.push { cls := .type "tuple", data := .seq items.toList.reverse.toArray } })
    (hsz : items.size ≤ sizeLine) : wpAny (model prog w) A (getItem (.ref t) (.ref sl)) Q E s := by
  have htake : sizeOk (.seq items.toList.reverse.toArray) := by
    show items.toList.reverse.toArray.size ≤ sizeLine
    rw [List.size_toArray, List.length_reverse, Array.length_toList]
    exact hsz
  obtain ⟨os, hos, hcs, hds⟩ := id hs
  have hTs : s.TypeIs (.ref sl) "slice" := ⟨os, hos, hcs⟩
  unfold getItem
  try with_reducible refine wpAny_holding ?_
  first | refine wpAny_bind (wpAny_pure ?_) | skip
  refine wpAny_bind (wpAny_sequenceKey ht.typeIs (by decide) ?_)
  refine wpAny_bind (wpAny_callSpecial?_slot (name := Str.ofString "__getitem__") ht.typeIs PyProof.Rows.slot_tuple_getitem
    (wpAny_call_entry PyProof.Rows.slot_tuple_getitem ht.typeIs entry_tuple_getitem ?_ (args_tuple_getitem _ _)))
  show wpAny _ _ (Builtin.Tuple.tupleItemsOf (.ref t) >>= _) _ _ s
  refine wpAny_bind (tupleItemsOf_ ht ?_)
  refine wpAny_bind (wpAny_typeOf hTs ?_)
  rw [if_pos (by decide)]
  refine wpAny_bind (sliceApplied_rev hs pl pu ps ?_)
  have hno : ¬ ((((items.size : Int) - 1) == 0 && (-1 : Int) == 1 && items.size == items.size) = true) := by
    intro q
    rw [Bool.and_eq_true, Bool.and_eq_true] at q
    have q1 : (-1 : Int) = 1 := eq_of_beq q.1.2
    omega
  show wpAny _ _ (if (((items.size : Int) - 1) == 0 && (-1 : Int) == 1 && items.size == items.size) = true then _ else _) _ _ s
  rw [if_neg hno, pick_rev]
  first
    | exact wpAny_bind (m := Builtin.Tuple.tupleExact _) (wpAny_newObj_type (wpAny_pure ⟨_, rfl, wpAny_pure h⟩) htake)
    | exact wpAny_bind (m := Builtin.Tuple.tupleExact _) (wpAny_newObj_type (wpAny_bind (wpAny_pure (wpAny_pure ⟨_, rfl, wpAny_pure h⟩))) htake)
    | exact wpAny_bind (wpAny_bind (m := Builtin.Tuple.tupleExact _) (wpAny_newObj_type (wpAny_pure (wpAny_pure ⟨_, rfl, wpAny_pure h⟩)) htake))
    | exact wpAny_bind (wpAny_bind (m := Builtin.Tuple.tupleExact _) (wpAny_newObj_type (wpAny_pure ⟨_, rfl, wpAny_pure h⟩) htake))
end
def tRevT (K : PySem.W.Frag) (te : TE) : TE := fun σ H Q => te σ H fun x H1 => ∃ a xs, x = .ref a ∧ SqT K H1 a xs ∧ TpN H1 xs.reverse Q
section
variable {X : Cx}
theorem pe_revT {e : Expr} {te : TE} {k : Nat} {p1 p2 p3 pos : Pos} (he : PE X e te) : PE X (.Subscript e (.Slice none none (some (.UnaryOp .USub (.Constant (.int 1) k p1) p2)) p3) pos) (tRevT X.K te) := by
  refine ⟨fun pins s σ H Q I h => ?_⟩
  refine Subscript_ (thn (he.run pins s σ H _ I h) fun v s1 ⟨x, H1, I1, r1, q1⟩ => ?_)
  obtain ⟨a, xs, ex, hx, q⟩ := q1
  subst ex
  cases r1
  have hst : PO X (some (.UnaryOp .USub (.Constant (.int 1) k p1) p2)) (tPart (tUn (rU fun i => .int (-i)) (tC (.int 1)))) := po_some (pe_un un_neg pe_int)
  refine wpAny_Slice (thn (po_none.run pins s1 σ H1 (fun o H2 => o = none ∧ H2 = H1) I1 ⟨rfl, rfl⟩) fun vl s2 ⟨l, H2, I2, pl, el, e2⟩ => ?_)
  subst el e2
  refine thn (po_none.run pins s2 σ H2 (fun o H3 => o = none ∧ H3 = H2) I2 ⟨rfl, rfl⟩) fun vu s3 ⟨u, H3, I3, pu, eu, e3⟩ => ?_
  subst eu e3
  refine thn (hst.run pins s3 σ H3 (fun o H4 => o = some (-1) ∧ H4 = H3) I3 ⟨1, rfl, -1, rfl, rfl, rfl⟩) fun vs s4 ⟨o, H4, I4, ps, eo, e4⟩ => ?_
  subst eo e4
  have I5 : Inv X pins σ H4 { s4 with heap := s4.heap.push { cls := .type "slice", data := .fields #[vl, vu, vs] } } := I4.kept (t' := s4.toks) fun b ob q => Heap.get?_push_of_some _ q
  obtain ⟨its, r, ht, hz⟩ := I5.tuple hx
  have hlen := r.length
  show wpAny (model X.prog X.w) X.A (subscriptTail e (.Slice none none (some (.UnaryOp .USub (.Constant (.int 1) k p1) p2)) p3) (.ref a) (.ref s4.heap.objs.size)) (EP X pins σ Q) X.xe { s4 with heap := s4.heap.push { cls := .type "slice", data := .fields #[vl, vu, vs] } }
  refine tail_any (ops := [.ref a, .ref s4.heap.objs.size]) ht.typeIs (PyProof.Rows.slot_tuple_getitem.lookup) ?_ (by with_unfolding_all rfl)
  refine getItem_tuple_rev ht (Heap.IsSliceOf.new _ vl vu vs) pl pu ps ?_ (by rw [List.size_toArray]; omega)
  exact ⟨.ref _, _, I5.laid (t' := s4.toks) (o := .frz _ (.tup xs.reverse)) (fun b ob q => Heap.get?_push_of_some _ q) (Nat.le_refl _) (tup_ok (by rw [List.length_reverse]; exact hz) r.reverse (by simp) (Heap.get?_push_size _ rfl)), rfl, q _ _ (I5.hok.fresh (Nat.le_refl _)) rfl⟩
end
def revTF (x : Out) (m : Mem) : Option (Out × Mem) := match x with
  | .v (.tup xs) => some (.v (.tup xs.reverse), m)
  | _ => none
theorem RVs.rev {K : PySem.W.Frag} {ι : List Addr} {H : Hp} : ∀ {ds : List D} {vs : List V}, RVs K ι H ds vs → RVs K ι H ds.reverse vs.reverse
  | _, _, .nil => .nil
  | _, _, .cons r t => by
    rw [List.reverse_cons, List.reverse_cons]
    exact (RVs.rev t).append (.cons r .nil)
theorem revTU {K : PySem.W.Frag} : R1S K (fun v H Q => ∃ a xs, v = .ref a ∧ SqT K H a xs ∧ TpN H xs.reverse Q) revTF := by
  intro ι H H0 m x z vx m' Q rm bd rx hf k
  unfold revTF at hf
  split at hf
  · cases hf
    cases rx with
    | tup hs r => exact ⟨_, _, rfl, hs.sq, fun p o hp ho => k _ ι _ (Le.newAt hp) (rm.newAt hp) (new_tup hp ho r.rev)⟩
  · cases hf
section
variable {X : Cx} {e : Expr} {fa : E} {k : Nat} {p1 p2 p3 pos : Pos}
theorem revT_ (ha : SE X e fa) : SE X (.Subscript e (.Slice none none (some (.UnaryOp .USub (.Constant (.int 1) k p1) p2)) p3) pos) (eUn revTF fa) := pe_imp (pe_revT ha) fun σ H Q ⟨ι, ρ, m, z, m', rs, rm, hf, k⟩ => by
  obtain ⟨x, h1, hf⟩ := bind_some hf
  refine ⟨ι, ρ, m, x.1, x.2, rs, rm, h1, fun v ι1 H1 l1 rm1 ro1 bd1 => ?_⟩
  exact revTU ι1 H1 H x.2 x.1 z v m' _ rm1 bd1 ro1 hf fun w ι3 H3 l3 rm3 ro3 bd3 => k w ι3 H3 (l1.tr rm1 l3) rm3 (ro3.from l1 rm1) bd3
end
end Q
/-! tuple(reversed(t)) of a tuple (turned from HandS.RevTup, which has it of a list) -/
namespace Q
open PySem PySem.Spec PyProof.Rows L2 HT RT
theorem nolen_rt : typeLookup (.type "reversed") "__len__" = pure none := by rw [typeLookup_type, builtinLookup_eq_fast]; kernel_rfl
theorem hint_rt : typeLookup (.type "reversed") "__length_hint__" = pure (some (.builtin "reversed.__length_hint__")) := by rw [typeLookup_type, builtinLookup_eq_fast]; kernel_rfl
theorem walks_tupRev {prog : Program} {w : World} {A : Around} (hh : A.handled = none) (I l : Addr) (hne : l ≠ I) (items : Array Value) (hz : items.size ≤ sizeLine) :
    PySem.Walks prog w A I [I, l] [I] items.size (fun i v => items[items.size - 1 - i]? = some v) (fun i h => i ≤ items.size ∧ IsRt h I l ((items.size : Int) - 1 - (i : Int)) ∧ IsTup h l items) where
  sub := fun b hb => by simp at hb; simp [hb]
  frame := fun _ _ _ x hk => ⟨x.1, x.2.1.at fun o e => hk I (by simp) o e, let ⟨o, ho, r⟩ := x.2.2; ⟨o, hk l (by simp) o ho, r⟩⟩
  item := fun i s Q E hi x hQ => by
    have e : (items.size : Int) - 1 - (i : Int) = ((items.size - 1 - i : Nat) : Int) := by omega
    have hit := x.2.1
    rw [e] at hit
    have hx : items[items.size - 1 - i]? = some (items[items.size - 1 - i]'(by omega)) := Array.getElem?_eq_getElem (by omega)
    refine next_rt_item hit x.2.2 hx hz fun h' hit' hs' => ?_
    have e2 : ((items.size - 1 - i : Nat) : Int) - 1 = (items.size : Int) - 1 - ((i + 1 : Nat) : Int) := by omega
    rw [e2] at hit'
    exact hQ _ h' (s.toks + 1) hx ⟨hi, hit', (let ⟨o, ho, r⟩ := x.2.2; ⟨o, (hs'.2 l hne).trans ho, r⟩)⟩ fun b o hb eo => hs'.extBut b o (fun h => hb (by simp [h])) eo
  done := fun s Q E x hQ => by
    have e : (items.size : Int) - 1 - (items.size : Int) = -1 := by omega
    have hit := x.2.1
    rw [e] at hit
    exact next_rt_end hh hit fun h' he' => hQ h' s.toks fun b o hb eo => he' b o (fun h => hb (by simp [h])) eo
  self := fun _ _ _ _ x hQ => iter_rt x.2.1 hQ
section
variable {prog : Program} {w : World} {A : Around} {E : Value → Shared → Prop} {s : Shared}
theorem asInt_int (n : Int) (t : Tok) : asInt? (.int n t) = pure (some n) := rfl
theorem slot_rt_hint : Slot "reversed" "__length_hint__" "reversed.__length_hint__" :=
  .of (owner := "reversed") (n := "__length_hint__") (by rw [typeLookup_type, builtinLookup_eq_fast]; kernel_rfl) (by decide +kernel) (by decide +kernel) (by decide +kernel)
    (by first | exact .inl (by decide +kernel) | exact .inr (by decide +kernel)) (by rw [isSubtype_type]; kernel_rfl)
theorem entry_rt_hint : entryFor table "reversed.__length_hint__" = some Builtin.«reversed.__length_hint__» := entryFor_of_tree (by kernel_rfl)
theorem args_rt_hint (a : Value) : argsOk "reversed.__length_hint__" ⟨[a], []⟩ := by
  unfold argsOk; rw [signature?_of (id := "reversed.__length_hint__") (n := ['_', '_', 't', 'n', 'i', 'h', '_', 'h', 't', 'g', 'n', 'e', 'l', '_', '_']) (o := ['d', 'e', 's', 'r', 'e', 'v', 'e', 'r']) (by kernel_rfl) owner_rt]; kernel_rfl
theorem call_hint {it l : Addr} {n : Nat} {Q : Value → Shared → Prop} (hit : IsRt s.heap it l ((n : Int) - 1))
    (hlen : ∀ (A : Around) (E : Value → Shared → Prop) (Q : Value → Shared → Prop), Q (.int n (s.toks + 1)) { s with toks := s.toks + 1 + 1 } → wpAny (model prog w) A (call (.builtin "len") [.ref l]) Q E s)
    (h : ∀ t k, Q (.int n t) { s with toks := k }) : wpAny (model prog w) A (call (.builtin "reversed.__length_hint__") [.ref it]) Q E s := by
  refine wpAny_call_entry slot_rt_hint hit.typeIs entry_rt_hint ?_ (args_rt_hint _)
  obtain ⟨o, ho, hc, hd⟩ := id hit
  unfold Builtin.«reversed.__length_hint__»
  refine wpAny_bind (wpAny_of_eq (a := Value.ref it) rfl ?_)
  try dsimp only
  refine wpAny_bind (wpAny_field ho hd (x := .ref l) rfl ?_)
  try dsimp only
  rw [if_neg (show ¬ ((Value.ref l == Value.none) = true) from ne_true_of_eq_false rfl)]
  refine wpAny_bind (hlen _ _ _ ?_)
  refine wpAny_bind (wpAny_of_eq (a := some ((n : Nat) : Int)) rfl ?_)
  try dsimp only
  refine wpAny_bind (wpAny_field (s := { s with toks := s.toks + 1 + 1 }) ho hd (x := rawInt ((n : Int) - 1)) rfl ?_)
  show wpAny _ _ (if (n : Int) < (n : Int) - 1 + 1 then _ else _) _ _ _
  rw [if_neg (by omega), show (n : Int) - 1 + 1 = (n : Int) by omega]
  show wpAny _ _ (mkInt (n : Int) >>= fun v => ret v) _ _ _
  refine wpAny_bind (wpAny_mkInt ?_)
  exact wpAny_pure ⟨_, rfl, h _ _⟩
theorem collect_rt {it l : Addr} {items : Array Value} {Q : List Value → Shared → Prop} (hh : A.handled = none) (hit : IsRt s.heap it l ((items.size : Int) - 1)) (hl : IsTup s.heap l items) (hne : l ≠ it) (h1n : 0 < items.size) (hn : items.size ≤ sizeLine)
    (hQ : ∀ (h' : Heap) (tk : Nat) (acc : Array Value), (∀ b o, b ≠ it → s.heap.get? b = some o → h'.get? b = some o) → ItemsOf (fun i v => items[items.size - 1 - i]? = some v) acc items.size → Q acc.toList { s with heap := h', toks := tk }) :
    wpAny (model prog w) A (collect (.ref it)) Q E s := by
  have W := (walks_tupRev (prog := prog) (w := w) (A := A.in1) hh it l hne items hn).toS
  obtain ⟨oi, hoi, _⟩ := id hit
  obtain ⟨ol, hol, _⟩ := id hl
  have hSi : s.heap.objs.size ≠ it := Nat.ne_of_gt (Heap.lt_size hoi)
  have hSl : s.heap.objs.size ≠ l := Nat.ne_of_gt (Heap.lt_size hol)
  have hSf : s.heap.objs.size ∉ [it, l] := by simp only [List.mem_cons, List.not_mem_nil, or_false, not_or]; exact ⟨hSi, hSl⟩
  unfold collect
  refine wpAny_bind (wpAny_runValue (codeAny_builtin F.entry_proto_collect ?_))
  rw [Around.under_plainId F.plain_proto_collect _]
  show wpAny _ A.in1 (newList [] >>= fun l' => again (.builtin "list.__iadd__" ⟨[l', .ref it], []⟩)) _ _ s
  refine wpAny_bind (wpAny_newObj_type ?_)
  refine wpAny_pure ⟨plainId_quiet F.plain_list_iadd _, codeAny_builtin F.entry_list_iadd ?_⟩
  rw [Around.under_plainId F.plain_list_iadd _]
  have hS₁ : (s.heap.push { cls := .type "list", data := .seq ([] : List Value).toArray }).get? s.heap.objs.size = some { cls := .type "list", data := .seq ([] : List Value).toArray } := Heap.get?_push_size _ rfl
  have hit1 : IsRt (s.heap.push { cls := .type "list", data := .seq ([] : List Value).toArray }) it l ((items.size : Int) - 1) := hit.at fun o e => Heap.get?_push_of_some _ e
  have hl1 : IsTup (s.heap.push { cls := .type "list", data := .seq ([] : List Value).toArray }) l items := let ⟨o, ho, r⟩ := hl; ⟨o, Heap.get?_push_of_some _ ho, r⟩
  have hT : ({ s with heap := s.heap.push { cls := .type "list", data := .seq ([] : List Value).toArray } } : Shared).TypeIs (.ref it) "reversed" := IsRt.typeIs (s := { s with heap := s.heap.push { cls := .type "list", data := .seq ([] : List Value).toArray } }) hit1
  have h1 : Builtin.List.listSameRef (.ref s.heap.objs.size) (.ref it) = false := by simp [Builtin.List.listSameRef, hSi]
  show wpAny _ A.in1 (Builtin.List.listExtendWith (.ref s.heap.objs.size) (.ref it) (.ref s.heap.objs.size)) _ _ _
  unfold Builtin.List.listExtendWith
  refine wpAny_bind (wpAny_typeOf hT ?_)
  rw [if_neg (by rw [h1]; decide)]
  refine wpAny_bind (iter_rt (s := { s with heap := s.heap.push { cls := .type "list", data := .seq ([] : List Value).toArray } }) hit1 ?_)
  refine wpAny_bind (wpAny_holding ?_)
  unfold Builtin.List.listLengthHint
  refine wpAny_bind (wpAny_specialOf hT nolen_rt ?_)
  show wpAny _ A.in1 (specialOf (Value.ref it) (Str.ofString "__length_hint__") >>= _) _ _ _
  refine wpAny_bind (wpAny_specialOf hT hint_rt ?_)
  generalize hid : ("reversed.__length_hint__" : String) = id0
  wp_delta
  rw [show splitId id0 = some ("reversed", "__length_hint__") from by subst hid; decide +kernel]
  subst hid
  refine wpAny_bind (wpAny_isInstance (b := true) hT (by rw [isSubtype_type]; kernel_rfl) ?_)
  rw [if_neg (by decide)]
  rw [if_neg (ne_true_of_eq_false (by kernel_rfl))]
  refine wpAny_bind (wpAny_rule ?_)
  rw [slot_rt_hint.bind]
  refine wpAny_bind (wpAny_pure ?_)
  try dsimp only
  refine wpAny_bind (wpAny_attempt (call_hint (n := items.size) hit1 (fun A E Q k => len_tuple hl1 (by have := line63; omega) k) fun t k => ?_))
  try dsimp only
  refine wpAny_bind ?_
  rw [asInt_int]
  refine wpAny_pure ?_
  show wpAny _ _ (if (!Builtin.List.listFitsIndex (items.size : Int)) = true then _ else _) _ _ _
  have hfi : Builtin.List.listFitsIndex (items.size : Int) = true := by
    have := line63
    unfold Builtin.List.listFitsIndex
    rw [Bool.and_eq_true, decide_eq_true_eq, decide_eq_true_eq]
    omega
  rw [if_neg (by rw [hfi]; decide)]
  rw [if_neg (by omega)]
  have htl : Builtin.List.listTooLong (items.size : Int).toNat = false := by
    unfold Builtin.List.listTooLong
    rw [decide_eq_false_iff_not]
    omega
  rw [if_neg (by rw [htl]; decide)]
  refine wpAny_pure ?_
  have hnz : ((items.size : Int) != 0) = true := by rw [bne_iff_ne]; omega
  rw [hnz]
  clear hnz hfi htl
  show wpAny _ A.in1 (rule "list.extend.makes-room" >>= fun _ => Builtin.List.listTouch (.ref s.heap.objs.size) >>= fun _ =>
    again (.builtin "list.extend.loop" ⟨[.ref s.heap.objs.size, .ref it, .ref s.heap.objs.size], []⟩)) _ _ _
  refine wpAny_bind (wpAny_rule ?_)
  refine wpAny_bind ?_
  show wpAny _ A.in1 (updateSeq s.heap.objs.size (·.push .none) >>= fun _ => updateSeq s.heap.objs.size (·.pop)) _ _ _
  refine wpAny_bind (wpAny_updateSeq hS₁ rfl ?_)
  have hS₂ := Heap.get?_update_self (Obj.mapSeq (·.push Value.none)) hS₁ rfl
  refine wpAny_updateSeq hS₂ rfl ?_
  have hS₃ := Heap.get?_update_self (Obj.mapSeq (·.pop)) hS₂ rfl
  have oth : ∀ b o, b ≠ s.heap.objs.size → (s.heap.push { cls := .type "list", data := .seq ([] : List Value).toArray }).get? b = some o →
      (((s.heap.push { cls := .type "list", data := .seq ([] : List Value).toArray }).update s.heap.objs.size (Obj.mapSeq (·.push Value.none))).update s.heap.objs.size (Obj.mapSeq (·.pop))).get? b = some o :=
    fun b o hb e => (Heap.get?_update_other _ _ (Ne.symm hb)).trans ((Heap.get?_update_other _ _ (Ne.symm hb)).trans e)
  have e0 : ((items.size : Nat) : Int) - 1 - ((0 : Nat) : Int) = (items.size : Int) - 1 := by omega
  refine wpAny_pure ⟨plainId_quiet F.plain_extend_loop _, codeAny_extend_loopS W hn _ hSf _ items.size 0 _ _ _ rfl (Nat.zero_le _) ⟨Nat.zero_le _, by rw [e0]; exact hit1.at fun o e => oth _ o (Ne.symm hSi) e, (let ⟨o, ho, r⟩ := hl1; ⟨o, oth _ o (Ne.symm hSl) ho, r⟩)⟩ hS₃ (ItemsOf.nil _) fun s' acc' c' hm hS' hacc => ?_⟩
  show wpAny _ A (load s.heap.objs.size >>= _) _ _ s'
  refine wpAny_bind (wpAny_load hS' ?_)
  refine wpAny_pure ?_
  rw [Moved.eq_with hm]
  refine hQ s'.heap s'.toks acc' (fun b o hb e => hm.heap b o (fun hmem => ?_) (oth b o (Nat.ne_of_lt (Heap.lt_size e)) (Heap.get?_push_of_some _ e))) hacc
  rcases List.mem_cons.mp hmem with e' | hmem
  · exact absurd (Heap.lt_size e) (by rw [e']; exact Nat.lt_irrefl _)
  · exact hb (List.mem_singleton.mp hmem)
theorem code_tuple_new_rt {it l : Addr} {items : Array Value} {Q₁ : Value → Shared → Prop} (hh : A.handled = none) (hit : IsRt s.heap it l ((items.size : Int) - 1)) (hl : IsTup s.heap l items) (hne : l ≠ it) (h1n : 0 < items.size) (hn : items.size ≤ sizeLine)
    (h : ∀ (h' : Heap) (tk : Nat) (acc : Array Value), (∀ b o, b ≠ it → s.heap.get? b = some o → h'.get? b = some o) → ItemsOf (fun i v => items[items.size - 1 - i]? = some v) acc items.size →
      Q₁ (.ref h'.objs.size) { s with heap := h'.push { cls := .type "tuple", data := .seq acc }, toks := tk }) :
    codeAny (model prog w) A (.call (.builtin "tuple.__new__") ⟨[.type "tuple", .ref it], []⟩) (wants Q₁ E) s := by
  refine codeAny_of_tree ?_
  show wpAny _ A.in1 (do checkBuiltinCall "tuple.__new__" ⟨[.type "tuple", .ref it], []⟩; again (.builtin "tuple.__new__" ⟨[.type "tuple", .ref it], []⟩)) _ _ s
  refine wpAny_bind (wpAny_of_eq (F.newCall_tuple_1 _) (wpAny_pure ⟨plainId_quiet F.plain_tuple_new _, codeAny_builtin F.entry_tuple_new ?_⟩))
  rw [Around.under_plainId F.plain_tuple_new _]
  have hsub := sub_tuple_self
  have hinit := init_tuple_lookup
  have hmh := madeHere_tuple
  have hTI : s.TypeIs (.ref it) "reversed" := hit.typeIs
  have hh1 : A.in1.handled = none := hh
  wp_walk using wpAny_typeOf hTI, collect_rt (A := A.in1) hh1 hit hl hne h1n hn
  intro h' tk acc hk hacc
  show wpAny _ _ (Builtin.Tuple.tupleExact acc.toList.toArray >>= fun v => ret v) _ _ _
  unfold Builtin.Tuple.tupleExact
  refine wpAny_bind (wpAny_newObj_type ?_ (by show acc.toList.toArray.size ≤ sizeLine; simp only [Array.toArray_toList]; rw [hacc.1]; exact hn))
  refine wpAny_pure ?_
  have e : acc.toList.toArray = acc := by simp
  rw [e]
  exact h h' tk acc hk hacc
theorem call_tuple_rt {it l : Addr} {items : Array Value} {Q : Value → Shared → Prop} (hh : A.handled = none) (hit : IsRt s.heap it l ((items.size : Int) - 1)) (hl : IsTup s.heap l items) (hne : l ≠ it) (h1n : 0 < items.size) (hn : items.size ≤ sizeLine)
    (hQ : ∀ (h' : Heap) (tk : Nat) (acc : Array Value), (∀ b o, b ≠ it → s.heap.get? b = some o → h'.get? b = some o) → ItemsOf (fun i v => items[items.size - 1 - i]? = some v) acc items.size →
      Q (.ref h'.objs.size) { s with heap := h'.push { cls := .type "tuple", data := .seq acc }, toks := tk }) :
    wpAny (model prog w) A (call (.type "tuple") [.ref it]) Q E s := by
  refine callType_codes (Q₁ := fun obj s₁ => s₁.TypeIs obj "tuple" ∧ Q obj s₁) F.called_tuple (F.typeCall_tuple_1 _) F.entry_object_init
    (code_tuple_new_rt (A := A.in1) hh hit hl hne h1n hn fun h' tk acc hk hacc => ⟨⟨_, Heap.get?_push_size _ rfl, rfl⟩, hQ h' tk acc hk hacc⟩) fun obj s₁ h₁ => ?_
  exact ⟨h₁.1, F.args_object_init_2 obj _, object_init_meets F.called_tuple.init.lookup F.called_tuple.made (by decide) prog w A.in1 _ s₁ ⟨h₁.1, rfl, h₁.2⟩⟩
end
def tRevN (K : PySem.W.Frag) (te : TE) : TE := fun σ H Q => te σ H fun x H1 => ∃ a xs, x = .ref a ∧ SqT K H1 a xs ∧ xs ≠ [] ∧ TpN H1 xs.reverse Q
section
variable {X : Cx}
theorem pe_tupRevT {e : Expr} {te : TE} {p p2 pos pos2 : Pos} (hc : X.calm = true) (hg : Gl X "tuple") (hm : X.mg "tuple" = none) (hg2 : Gl X "reversed") (hm2 : X.mg "reversed" = none) (he : PE X e te)
    (hs : starEach [e] X.env = (false, eval e X.env) :: starEach [] X.env := by rfl)
    (hs2 : starEach [.Call (.Name "reversed" p2) [e] [] pos2] X.env = (false, eval (.Call (.Name "reversed" p2) [e] [] pos2) X.env) :: starEach [] X.env := by rfl) :
    PE X (.Call (.Name "tuple" p) [.Call (.Name "reversed" p2) [e] [] pos2] [] pos) (tRevN X.K te) := by
  refine ⟨fun pins s σ H Q I h => ?_⟩
  refine Call_ (ld_blt I hg hm boot_tuple (PyProof.Rows.callWith_type1 (args_cons (Call_ (ld_blt I hg2 hm2 PyProof.Rows.boot_reversed (PyProof.Rows.callWith_type1 (args_cons (thn (he.run pins s σ H _ I h) fun u s1 ⟨v, H1, I1, r1, q1⟩ => args_nil ?_) hs) hs rfl))) hs2) hs2 rfl))
  obtain ⟨a, xs, ev, hq, hxn, q⟩ := q1
  subst ev
  obtain rfl : u = Value.ref a := r1
  obtain ⟨its, rv, p', hz⟩ := I1.tuple hq
  have h1n : 0 < its.toArray.size := by rw [List.size_toArray, ← rv.length]; exact List.length_pos_iff.mpr hxn
  have hl := rv.length
  have hn63 := line63
  refine call_reversed_tup p' (fun A E Q k => len_tuple p' (by simp only [List.size_toArray] <;> omega) k) (args_nil ?_)
  have k0 : ∀ b o, s1.heap.get? b = some o → (s1.heap.push (rtObj a ((its.toArray.size : Int) - 1))).get? b = some o := fun b o e => Heap.get?_push_of_some _ e
  have I2 : Inv X pins σ H1 { s1 with heap := s1.heap.push (rtObj a ((its.toArray.size : Int) - 1)), toks := s1.toks + 1 + 1 } := I1.kept (t' := s1.toks + 1 + 1) k0
  obtain ⟨f0, f1, f2, f3, f4, f5⟩ := I1.fpOk (H' := H1) (b := s1.heap.objs.size) (Nat.le_refl _) (I1.hok.fresh (Nat.le_refl _))
  obtain ⟨ol, hol, _⟩ := id p'
  have hne : a ≠ s1.heap.objs.size := Nat.ne_of_lt (Heap.lt_size hol)
  have hn : its.toArray.size ≤ sizeLine := by rw [List.size_toArray, ← rv.length]; exact hz
  refine call_tuple_rt (s := { s1 with heap := s1.heap.push (rtObj a ((its.toArray.size : Int) - 1)), toks := s1.toks + 1 + 1 }) (I1.ok.hd hc) ⟨_, Heap.get?_push_size _ rfl, rfl, rfl⟩ (let ⟨o, ho, r⟩ := p'; ⟨o, k0 _ _ ho, r⟩) hne h1n hn fun h' tk acc hk hi => ?_
  have I3 : Inv X pins σ H1 { s1 with heap := h', toks := tk } := I2.turned (t' := tk) (fun b o hb e => hk b o hb e) f0 f1 f3 f4 f5
  exact ⟨.ref _, _, I3.laid (t' := tk) (o := .frz _ (.tup xs.reverse)) (fun b ob q => Heap.get?_push_of_some _ q) (Nat.le_refl _) (tup_ok (by rw [List.length_reverse]; exact hz) (vals_rev rv hi) (by simp) (Heap.get?_push_size _ rfl)), rfl, q _ _ (I3.hok.fresh (Nat.le_refl _)) rfl⟩
end
def revNF (x : Out) (m : Mem) : Option (Out × Mem) := match x with
  | .v (.tup (a :: xs)) => some (.v (.tup (a :: xs).reverse), m)
  | _ => none
theorem revNU {K : PySem.W.Frag} : R1S K (fun v H Q => ∃ a xs, v = .ref a ∧ SqT K H a xs ∧ xs ≠ [] ∧ TpN H xs.reverse Q) revNF := by
  intro ι H H0 m x z vx m' Q rm bd rx hf k
  unfold revNF at hf
  split at hf
  · cases hf
    cases rx with
    | tup hs r => exact ⟨_, _, rfl, hs.sq, (by intro e; subst e; cases r), fun p o hp ho => k _ ι _ (Le.newAt hp) (rm.newAt hp) (new_tup hp ho r.rev)⟩
  · cases hf
section
variable {X : Cx} {e : Expr} {fa : E} {p p2 pos pos2 : Pos}
theorem tupRev_ (hc : X.calm = true) (hm : X.mg "tuple" = none) (hm2 : X.mg "reversed" = none) (ha : SE X e fa) (hg : Gl X "tuple" := by rfl) (hg2 : Gl X "reversed" := by rfl)
    (hs : starEach [e] X.env = (false, eval e X.env) :: starEach [] X.env := by rfl)
    (hs2 : starEach [.Call (.Name "reversed" p2) [e] [] pos2] X.env = (false, eval (.Call (.Name "reversed" p2) [e] [] pos2) X.env) :: starEach [] X.env := by rfl) :
    SE X (.Call (.Name "tuple" p) [.Call (.Name "reversed" p2) [e] [] pos2] [] pos) (eUn revNF fa) := pe_imp (pe_tupRevT hc hg hm hg2 hm2 ha hs hs2) fun σ H Q ⟨ι, ρ, m, z, m', rs, rm, hf, k⟩ => by
  obtain ⟨x, h1, hf⟩ := bind_some hf
  refine ⟨ι, ρ, m, x.1, x.2, rs, rm, h1, fun v ι1 H1 l1 rm1 ro1 bd1 => ?_⟩
  exact revNU ι1 H1 H x.2 x.1 z v m' _ rm1 bd1 ro1 hf fun w ι3 H3 l3 rm3 ro3 bd3 => k w ι3 H3 (l1.tr rm1 l3) rm3 (ro3.from l1 rm1) bd3
end
end Q
namespace Q
open PySem L2
/-! ### min(xs), max(xs): a list or a tuple of data that are alike -/
/-- the comparing of what stands in the heap h0, wherever that heap has gone on -/
def CmpAt (prog : Program) (w : World) (A : Around) (op : CmpOp) (h0 : Heap) (P : Nat → Value → Prop) (bt : Nat → Nat → Bool) : Prop :=
  ∀ (i j : Nat) (vi vj : Value) (s : Shared) (Q : Value → Shared → Prop) (E : Value → Shared → Prop), P i vi → P j vj → (∀ b o, h0.get? b = some o → s.heap.get? b = some o) → Q (.bool (bt i j)) s → wpAny (model prog w) A (richCompare op vi vj) Q E s

theorem dpAll_get {K : PySem.W.Frag} {H : Hp} : ∀ {xs : List V} {ds : List PyData} {i : Nat} {x : V}, DpAll K H xs ds → xs[i]? = some x → ∃ d, ds[i]? = some d ∧ Dp K H x d
  | _, _, _, _, .nil, h => by simp at h
  | _, _, 0, _, .cons h _, e => by simp at e; subst e; exact ⟨_, rfl, h⟩
  | _, _, i + 1, _, .cons _ t, e => by simp at e; obtain ⟨d, h1, h2⟩ := dpAll_get t e; exact ⟨d, by simpa using h1, h2⟩
theorem dpAll_len {K : PySem.W.Frag} {H : Hp} : ∀ {xs : List V} {ds : List PyData}, DpAll K H xs ds → xs.length = ds.length
  | _, _, .nil => rfl
  | _, _, .cons _ t => by simp [dpAll_len t]
theorem vals_get : ∀ {xs : List V} {us : List Value} {i : Nat} {u : Value}, Vals xs us → us[i]? = some u → ∃ x, xs[i]? = some x ∧ RelV x u
  | _, _, _, _, .nil, h => by simp at h
  | _, _, 0, _, .cons r _, e => by simp at e; subst e; exact ⟨_, rfl, r⟩
  | _, _, i + 1, _, .cons _ t, e => by simp at e; obtain ⟨d, h1, h2⟩ := vals_get t e; exact ⟨d, by simpa using h1, h2⟩
theorem pdL_mem : ∀ {xs : List D} {d : PyData}, d ∈ pdL xs → ∃ x ∈ xs, d = x.pd
  | [], _, h => by simp [pdL] at h
  | x :: xs, d, h => by
    rw [pdL] at h
    rcases List.mem_cons.mp h with rfl | h
    · exact ⟨x, by simp, rfl⟩
    · obtain ⟨y, hy, e⟩ := pdL_mem h; exact ⟨y, by simp [hy], e⟩
theorem okL_mem {n : Nat} : ∀ {xs : List D} {d : D}, okL n xs = true → d ∈ xs → okD n d = true
  | [], _, _, h => by simp at h
  | x :: xs, d, h, hd => by
    rw [okL, Bool.and_eq_true] at h
    rcases List.mem_cons.mp hd with rfl | hd
    · exact h.1
    · exact okL_mem h.2 hd

section
variable {prog : Program} {w : World} {A : Around} {R : Result → Shared → Prop} {I : Addr} {fp wr : List Addr} {n : Nat} {P : Nat → Value → Prop} {St : Nat → Heap → Prop} {h0 : Heap}
theorem min_loopA (W : PySem.Walks prog w A.in1 I fp wr n P St) (bt : Nat → Nat → Bool) (hcmp : CmpAt prog w A.in1 .Lt h0 P bt) (S : Addr) (hSf : S ∉ fp) (hw0 : ∀ b ∈ wr, h0.get? b = none) (hS0 : h0.get? S = none) :
    ∀ (k j : Nat) (s : Shared) (vb : Value) (c : Nat), n - (j + 1) = k → j + 1 ≤ n → St (j + 1) s.heap → (∀ b o, h0.get? b = some o → s.heap.get? b = some o) → P (argBest bt j) vb →
    s.heap.get? S = some { cls := .type "list", dict := none, data := .seq #[vb, vb] c, slots := #[] } →
    (∀ v h' tk, P (argBest bt (n - 1)) v → (∀ b o, b ∉ wr → b ≠ S → s.heap.get? b = some o → h'.get? b = some o) → R (.ok (.ret v)) { s with heap := h', toks := tk }) →
    codeAny (model prog w) A (.builtin "min.loop" ⟨[.ref I, .none, .ref S], []⟩) R s := by
  have hSw : S ∉ wr := fun h => hSf (W.sub _ h)
  have hname : (toString "min" ++ toString ".loop" : String) = "min.loop" := by decide
  have nw : ∀ {b : Addr} {o : Obj}, h0.get? b = some o → b ∉ wr := fun e hm => by rw [hw0 _ hm] at e; cases e
  have nS : ∀ {b : Addr} {o : Obj}, h0.get? b = some o → b ≠ S := fun e hm => by rw [hm, hS0] at e; cases e
  intro k
  induction k with
  | zero =>
    intro j s vb c hk hj hst hk0 hPb hS hR
    have hin : j + 1 = n := by omega
    refine codeAny_builtin F.entry_min_loop ?_
    rw [Around.under_plainId F.plain_min_loop _]
    show wpAny _ A.in1 (seqItems? (.ref S) >>= _) _ _ s
    refine wpAny_bind (wpAny_seqItems hS rfl ?_)
    show wpAny _ A.in1 (tryCatch (pyNext (.ref I)) _ >>= _) _ _ s
    refine wpAny_bind (wpAny_tryCatch (W.done s _ _ (hin ▸ hst) fun h' tk hk' => ?_))
    have hS' := hk' S _ hSw hS
    show wpAny _ A.in1 (updateSeq S (fun _ => #[]) >>= _) _ _ _
    refine wpAny_bind ?_
    refine wpAny_updateSeq hS' rfl (wpAny_bind (wpAny_letGo (wpAny_pure ?_)))
    refine hR vb _ tk (by rw [← hin]; exact hPb) fun b o hbw hbS e => (Heap.get?_update_other _ _ (Ne.symm hbS)).trans (hk' b o hbw e)
  | succ k ih =>
    intro j s vb c hk hj hst hk0 hPb hS hR
    have hlt : j + 1 < n := by omega
    refine codeAny_builtin F.entry_min_loop ?_
    rw [Around.under_plainId F.plain_min_loop _]
    show wpAny _ A.in1 (seqItems? (.ref S) >>= _) _ _ s
    refine wpAny_bind (wpAny_seqItems hS rfl ?_)
    show wpAny _ A.in1 (tryCatch (pyNext (.ref I)) _ >>= _) _ _ s
    refine wpAny_bind (wpAny_tryCatch (W.item (j + 1) s _ _ hlt hst fun v h' tk hP hst' hk' => ?_))
    have hS' := hk' S _ hSw hS
    have hk1 : ∀ b o, h0.get? b = some o → h'.get? b = some o := fun b o e => hk' b o (nw e) (hk0 b o e)
    show wpAny _ A.in1 (tryCatch (holding [v, v] (richCompare .Lt v vb >>= _)) _ >>= _) _ _ _
    refine wpAny_bind (wpAny_tryCatch (wpAny_holding (wpAny_bind (hcmp (j + 1) (argBest bt j) v vb _ _ _ hP hPb hk1 ?_))))
    refine wpAny_bind (wpAny_holding (wpAny_truthy_bool ?_))
    refine wpAny_bind (wpAny_letGo (wpAny_pure ?_))
    cases hb : bt (j + 1) (argBest bt j) with
    | true =>
      simp only [if_true]
      refine wpAny_bind ?_
      refine wpAny_updateSeq hS' rfl (wpAny_bind (wpAny_letGo ?_))
      rw [hname]
      refine wpAny_pure ⟨plainId_quiet F.plain_min_loop _, ih (j + 1) _ v _ (by omega) hlt (W.frame _ _ _ hst' fun b hbf o e => ?_) (fun b o e => ?_) (by simp only [argBest, hb, if_true]; exact hP) (Heap.get?_update_self _ hS' rfl)
        fun v' h'' tk'' hP' hk'' => ?_⟩
      · exact (Heap.get?_update_other _ _ (fun h : S = b => hSf (by rw [h]; exact hbf))).trans e
      · exact (Heap.get?_update_other _ _ (Ne.symm (nS e))).trans (hk1 b o e)
      · exact hR v' h'' tk'' hP' fun b o hbw hbS e => hk'' b o hbw hbS ((Heap.get?_update_other _ _ (Ne.symm hbS)).trans (hk' b o hbw e))
    | false =>
      simp only [Bool.false_eq_true, if_false]
      refine wpAny_bind (wpAny_letGo ?_)
      rw [hname]
      refine wpAny_pure ⟨plainId_quiet F.plain_min_loop _, ih (j + 1) _ vb c (by omega) hlt hst' hk1 (by simp only [argBest, hb, Bool.false_eq_true, if_false]; exact hPb) hS' fun v' h'' tk'' hP' hk'' => ?_⟩
      exact hR v' h'' tk'' hP' fun b o hbw hbS e => hk'' b o hbw hbS (hk' b o hbw e)
theorem min_firstA (W : PySem.Walks prog w A.in1 I fp wr n P St) (bt : Nat → Nat → Bool) (hcmp : CmpAt prog w A.in1 .Lt h0 P bt) (S : Addr) (hSf : S ∉ fp) (hw0 : ∀ b ∈ wr, h0.get? b = none) (hS0 : h0.get? S = none) (hn : 0 < n) {s : Shared} {c : Nat} (hst : St 0 s.heap) (hk0 : ∀ b o, h0.get? b = some o → s.heap.get? b = some o)
    (hS : s.heap.get? S = some { cls := .type "list", dict := none, data := .seq #[] c, slots := #[] })
    (hR : ∀ v h' tk, P (argBest bt (n - 1)) v → (∀ b o, b ∉ wr → b ≠ S → s.heap.get? b = some o → h'.get? b = some o) → R (.ok (.ret v)) { s with heap := h', toks := tk }) :
    codeAny (model prog w) A (.builtin "min.loop" ⟨[.ref I, .none, .ref S], []⟩) R s := by
  have hSw : S ∉ wr := fun h => hSf (W.sub _ h)
  have hname : (toString "min" ++ toString ".loop" : String) = "min.loop" := by decide
  refine codeAny_builtin F.entry_min_loop ?_
  rw [Around.under_plainId F.plain_min_loop _]
  show wpAny _ A.in1 (seqItems? (.ref S) >>= _) _ _ s
  refine wpAny_bind (wpAny_seqItems hS rfl ?_)
  show wpAny _ A.in1 (tryCatch (pyNext (.ref I)) _ >>= _) _ _ s
  refine wpAny_bind (wpAny_tryCatch (W.item 0 s _ _ hn hst fun v h' tk hP hst' hk' => ?_))
  have hS' := hk' S _ hSw hS
  show wpAny _ A.in1 (updateSeq S (fun _ => #[v, v]) >>= _) _ _ _
  refine wpAny_bind ?_
  refine wpAny_updateSeq hS' rfl ?_
  rw [hname]
  refine wpAny_pure ⟨plainId_quiet F.plain_min_loop _, min_loopA W bt hcmp S hSf hw0 hS0 _ 0 _ v _ rfl hn (W.frame _ _ _ hst' fun b hbf o e => ?_) (fun b o e => ?_) hP (Heap.get?_update_self _ hS' rfl) fun v' h'' tk'' hP' hk'' => ?_⟩
  · exact (Heap.get?_update_other _ _ (fun h : S = b => hSf (by rw [h]; exact hbf))).trans e
  · exact (Heap.get?_update_other _ _ (fun h : S = b => by rw [← h, hS0] at e; cases e)).trans (hk' b o (fun hm => by rw [hw0 _ hm] at e; cases e) (hk0 b o e))
  · exact hR v' h'' tk'' hP' fun b o hbw hbS e => hk'' b o hbw hbS ((Heap.get?_update_other _ _ (Ne.symm hbS)).trans (hk' b o hbw e))
end
section
variable {prog : Program} {w : World} {A : Around} {E : Value → Shared → Prop} {s : Shared}
theorem min_walkA {x : Value} {Q : Value → Shared → Prop}
    (h : wpAny (model prog w) A.in1 (pyIter x) (fun it s₂ => ∃ I fp wr n P St bt, it = .ref I ∧ PySem.Walks prog w A.in1 I fp wr n P St ∧ St 0 s₂.heap ∧ (∀ b ∈ fp, b < s₂.heap.objs.size) ∧ 0 < n ∧ s.heap.objs.size ≤ s₂.heap.objs.size ∧ (∀ b o, s.heap.get? b = some o → s₂.heap.get? b = some o) ∧ (∀ b ∈ wr, s.heap.get? b = none) ∧ CmpAt prog w A.in1 .Lt s.heap P bt ∧
      ∀ v h' tk, P (argBest bt (n - 1)) v → (∀ b o, b ∉ wr → s₂.heap.get? b = some o → h'.get? b = some o) → Q v { s₂ with heap := h', toks := tk }) E s) :
    wpAny (model prog w) A (call (.builtin "min") [x]) Q E s := by
  have hname : (toString "min" ++ toString ".loop" : String) = "min.loop" := by decide
  refine call_function_tree F.kind_min F.plain_min F.entry_min (F.args_min1 _) ?_
  show wpAny _ A.in1 (Builtin.Builtins.bindParams "min" ["key", "default"] 0 ⟨[], []⟩ >>= _) _ _ s
  refine wpAny_bind (wpAny_of_eq (show Builtin.Builtins.bindParams "min" ["key", "default"] 0 ⟨[], []⟩ = pure [none, none] from rfl) ?_)
  refine wpAny_bind (wpAny_pure ?_)
  refine wpAny_bind (wpAny_mono h (fun it s₂ h₂ => ?_) fun _ _ e => e)
  obtain ⟨I, fp, wr, n, P, St, bt, rfl, W, hst, hfp, hn, hsz, hk0, hw0, hcmp, hQ⟩ := h₂
  refine wpAny_bind (wpAny_newObj_type ?_)
  have hSf : s₂.heap.objs.size ∉ fp := fun hm => Nat.lt_irrefl _ (hfp _ hm)
  have hS0 : s.heap.get? s₂.heap.objs.size = none := by
    cases e : s.heap.get? s₂.heap.objs.size with
    | none => rfl
    | some o => exact absurd (Heap.lt_size e) (Nat.not_lt.mpr hsz)
  rw [hname]
  refine wpAny_pure ⟨plainId_quiet F.plain_min_loop _, min_firstA W bt hcmp s₂.heap.objs.size hSf hw0 hS0 hn (W.frame _ _ _ hst fun b _ o e => Heap.get?_push_of_some _ e) (fun b o e => Heap.get?_push_of_some _ (hk0 b o e)) (Heap.get?_push_size _ rfl) fun v h' tk hP hk => ?_⟩
  exact hQ v h' tk hP fun b o hbw e => hk b o hbw (Nat.ne_of_lt (Heap.lt_size e)) (Heap.get?_push_of_some _ e)
end
/-- the places of a row that reads as data -/
theorem min_cmp {prog : Program} {w : World} {A : Around} {h0 : Heap} {its : List Value} {ds : List PyData} (hr : ∀ (i : Nat) (v : Value), its[i]? = some v → ∃ d as, ds[i]? = some d ∧ Reads h0 v d as) (hal : ∀ d ∈ ds, ∀ e ∈ ds, PySem.W.alike d e = true) (hn : ∀ d ∈ ds, d ≠ .none) (hu : ∀ d ∈ ds, A.units + d.depth < cLine) :
    CmpAt prog w A .Lt h0 (fun i v => its[i]? = some v) (fun i j => PySem.W.dataLt (ds.getD i .none) (ds.getD j .none)) := by
  intro i j vi vj s Q E hi hj hk h
  obtain ⟨d, as, e1, r1⟩ := hr i vi hi
  obtain ⟨e, bs, e2, r2⟩ := hr j vj hj
  have m1 := List.mem_of_getElem? e1
  have m2 := List.mem_of_getElem? e2
  have room : A.units + min d.depth e.depth < cLine := Nat.lt_of_le_of_lt (Nat.add_le_add_left (Nat.min_le_left _ _) _) (hu d m1)
  simp only [] at h
  rw [show ds.getD i .none = d by rw [List.getD_eq_getElem?_getD, e1]; rfl, show ds.getD j .none = e by rw [List.getD_eq_getElem?_getD, e2]; rfl] at h
  exact PySem.W.rcLt_alike d e A s vi vj as bs (PyProof.Rows.Reads.keeps hk r1) (PyProof.Rows.Reads.keeps hk r2) (hal d m1 e m2) (hn d m1) room prog w E Q h
def btmin (ds : List PyData) (i j : Nat) : Bool := PySem.W.dataLt (ds.getD i .none) (ds.getD j .none)
def minI0 (ds : List PyData) : Nat := argBest (btmin ds) (ds.length - 1)
section
variable {prog : Program} {w : World} {A : Around} {E : Value → Shared → Prop} {s : Shared}
theorem min_listA {l : Addr} {its : List Value} {ds : List PyData} {Q : Value → Shared → Prop} (hh : A.handled = none) (hl : s.heap.IsList l its.toArray ∨ s.heap.IsTuple l its.toArray) (hlen : ds.length = its.length) (hne : 0 < its.length) (hr : ∀ (i : Nat) (v : Value), its[i]? = some v → ∃ d as, ds[i]? = some d ∧ Reads s.heap v d as)
    (hal : ∀ d ∈ ds, ∀ e ∈ ds, PySem.W.alike d e = true) (hn : ∀ d ∈ ds, d ≠ .none) (hu : ∀ d ∈ ds, A.units + 1 + d.depth < cLine)
    (h : ∀ v h' tk, its[minI0 ds]? = some v → (∀ b o, s.heap.get? b = some o → h'.get? b = some o) → Q v { s with heap := h', toks := tk }) : wpAny (model prog w) A (call (.builtin "min") [.ref l]) Q E s := by
  have hc := min_cmp (prog := prog) (w := w) (A := A.in1) hr hal hn hu
  have hlt : l < s.heap.objs.size := by rcases hl with ⟨_, e, _⟩ | ⟨_, e, _⟩ <;> exact Heap.lt_size e
  have fpb : ∀ (o : Obj), ∀ b ∈ [s.heap.objs.size, l], b < (s.heap.push o).objs.size := fun o b hb => by
    rw [Heap.size_push]
    rcases List.mem_cons.mp hb with rfl | hb
    · exact Nat.lt_succ_self _
    · rcases List.mem_cons.mp hb with rfl | hb
      · exact Nat.lt_succ_of_lt hlt
      · cases hb
  have wrn : ∀ b ∈ [s.heap.objs.size], s.heap.get? b = none := fun b hb => by
    simp at hb; subst hb
    cases e : s.heap.get? s.heap.objs.size with
    | none => rfl
    | some o => exact absurd (Heap.lt_size e) (Nat.lt_irrefl _)
  have old : ∀ {o : Obj} {h' : Heap}, (∀ b u, b ∉ [s.heap.objs.size] → (s.heap.push o).get? b = some u → h'.get? b = some u) → ∀ b u, s.heap.get? b = some u → h'.get? b = some u := fun hk b u e => by
    refine hk b u (fun hm => ?_) (Heap.get?_push_of_some _ e)
    rcases List.mem_cons.mp hm with e1 | hm
    · exact absurd (e1 ▸ Heap.lt_size e) (Nat.lt_irrefl _)
    · cases hm
  refine min_walkA ?_
  rcases hl with hl | hl
  · refine wpAny_pyIter_list hl ?_
    refine ⟨_, _, _, _, _, _, _, rfl, PySem.Walks.list (A := A.in1) hh _ l (Nat.ne_of_lt hlt) its.toArray, ⟨⟨_, Heap.get?_push_size _ rfl, rfl, rfl⟩, hl.push _⟩, fpb _, by simpa using hne, by rw [Heap.size_push]; omega, fun b o e => Heap.get?_push_of_some _ e, wrn, (by simpa using hc), fun v h' tk hP hk => ?_⟩
    refine h v h' tk ?_ (old hk)
    simp only [List.size_toArray, ← hlen, List.getElem?_toArray] at hP
    exact hP
  · refine wpAny_pyIter_tuple hl ?_
    refine ⟨_, _, _, _, _, _, _, rfl, PySem.Walks.tuple (A := A.in1) hh _ l (Nat.ne_of_lt hlt) its.toArray, ⟨⟨_, Heap.get?_push_size _ rfl, rfl, rfl⟩, hl.push _⟩, fpb _, by simpa using hne, by rw [Heap.size_push]; omega, fun b o e => Heap.get?_push_of_some _ e, wrn, (by simpa using hc), fun v h' tk hP hk => ?_⟩
    refine h v h' tk ?_ (old hk)
    simp only [List.size_toArray, ← hlen, List.getElem?_toArray] at hP
    exact hP
end
section
variable {X : Cx}
def rminD (K : PySem.W.Frag) : List V → Hp → VK → Prop := fun vs H Q => ∃ (a : Addr) (xs : List V) (ds : List PyData), vs = [V.ref a] ∧ (SqL K H a xs ∨ SqT K H a xs) ∧ DpAll K H xs ds ∧ 0 < xs.length ∧ (∀ d ∈ ds, ∀ e ∈ ds, PySem.W.alike d e = true) ∧ (∀ d ∈ ds, d ≠ .none) ∧ (∀ d ∈ ds, d.depth ≤ 60) ∧
  ∀ v, xs[minI0 ds]? = some v → Q v H
theorem cr_minD (hc : X.calm = true) (hu : X.A.units + 64 < cLine) : CallR X (.builtin "min") (rminD X.K) := by
  intro pins s σ H vs us Q I r h
  obtain ⟨a, xs, ds, rfl, hs, hd, hne, hal, hn, hdep, q⟩ := h
  rw [Vals.ref1 r]
  have key : ∀ its : List Value, Vals xs its → (s.heap.IsList a its.toArray ∨ s.heap.IsTuple a its.toArray) → wpAny (model X.prog X.w) X.A (call (.builtin "min") [.ref a]) (EP X pins σ Q) X.xe s := fun its rv hl => by
    have hl1 := rv.length
    have hl2 := dpAll_len hd
    refine min_listA (I.ok.hd hc) hl (by omega) (by omega) (fun i v hv => ?_) hal hn (fun d hd => by have := hdep d hd; omega) fun v h' tk hv hk => ?_
    · obtain ⟨x, hx, rx⟩ := vals_get rv hv
      obtain ⟨d, e1, e2⟩ := dpAll_get hd hx
      obtain ⟨as, r2⟩ := Dp.reads I d x v e2 rx
      exact ⟨d, as, e1, r2⟩
    · obtain ⟨x, hx, rx⟩ := vals_get rv hv
      exact ⟨x, H, I.kept hk, rx, q x hx⟩
  rcases hs with hs | hs
  · obtain ⟨its, rv, hl, _⟩ := I.list hs
    exact key _ rv (.inl hl.isList)
  · obtain ⟨its, rv, hl, _⟩ := I.tuple hs
    exact key _ rv (.inr hl)
end
/-- the plain function -/
noncomputable def min1F (x : Out) (m : Mem) : Option (Out × Mem) := (seqOf x m).bind fun xs => open Classical in if okL 60 xs = true ∧ xs ≠ [] ∧ (∀ d ∈ pdL xs, ∀ e ∈ pdL xs, PySem.W.alike d e = true) ∧ (∀ d ∈ pdL xs, d ≠ .none) then (xs[minI0 (pdL xs)]?).map fun d => (.v d, m) else none
theorem min1U {K : PySem.W.Frag} : R1S K (fun v H Q => rminD K [v] H Q) min1F := by
  intro ι H H0 m x z vx m' Q rm bd rx hf k
  obtain ⟨xs, h1, hf⟩ := bind_some hf
  split at hf
  · rename_i hc
    obtain ⟨d, e1, e2⟩ := Option.map_eq_some_iff.mp hf
    cases e2
    obtain ⟨a, vs, rfl, hs, r⟩ := seq_at rm rx h1
    refine ⟨a, vs, pdL xs, rfl, hs, RVs.dp r hc.1, by rw [← r.length]; exact List.length_pos_iff.mpr hc.2.1, hc.2.2.1, hc.2.2.2, fun d hd => ?_, fun v hv => ?_⟩
    · obtain ⟨d', hd', rfl⟩ := pdL_mem hd
      exact (pd_lay d' 60 (okL_mem hc.1 hd')).2
    · obtain ⟨v', e3, rv⟩ := r.get e1
      rw [hv] at e3; cases e3
      exact k _ ι H (Le.refl _ _) rm rv
  · cases hf
section
variable {X : Cx} {a : Expr} {p pos : Pos} {fa : E} {kk : Nat}
theorem min1_ (hr : Room kk X.A) (hm : X.mg "min" = none) (ha : SE X a fa) (hc : X.calm = true := by rfl) (hg : Gl X "min" := by rfl) (hs : starEach [a] X.env = (false, eval a X.env) :: starEach [] X.env := by rfl) (hpl : (backTo pos (starEach [] X.env)).any (·.1) = false := by rfl) : SE X (.Call (.Name "min" p) [a] [] pos) (eUn min1F fa) :=
  se_b1 (pe_callB (cr_minD hc hr.units) hg hm (by decide +kernel) (pa1 ha hs) (by decide) (by decide) hs hpl) min1U
end

section
variable {prog : Program} {w : World} {A : Around} {R : Result → Shared → Prop} {I : Addr} {fp wr : List Addr} {n : Nat} {P : Nat → Value → Prop} {St : Nat → Heap → Prop} {h0 : Heap}
theorem max_loopA (W : PySem.Walks prog w A.in1 I fp wr n P St) (bt : Nat → Nat → Bool) (hcmp : CmpAt prog w A.in1 .Gt h0 P bt) (S : Addr) (hSf : S ∉ fp) (hw0 : ∀ b ∈ wr, h0.get? b = none) (hS0 : h0.get? S = none) :
    ∀ (k j : Nat) (s : Shared) (vb : Value) (c : Nat), n - (j + 1) = k → j + 1 ≤ n → St (j + 1) s.heap → (∀ b o, h0.get? b = some o → s.heap.get? b = some o) → P (argBest bt j) vb →
    s.heap.get? S = some { cls := .type "list", dict := none, data := .seq #[vb, vb] c, slots := #[] } →
    (∀ v h' tk, P (argBest bt (n - 1)) v → (∀ b o, b ∉ wr → b ≠ S → s.heap.get? b = some o → h'.get? b = some o) → R (.ok (.ret v)) { s with heap := h', toks := tk }) →
    codeAny (model prog w) A (.builtin "max.loop" ⟨[.ref I, .none, .ref S], []⟩) R s := by
  have hSw : S ∉ wr := fun h => hSf (W.sub _ h)
  have hname : (toString "max" ++ toString ".loop" : String) = "max.loop" := by decide
  have nw : ∀ {b : Addr} {o : Obj}, h0.get? b = some o → b ∉ wr := fun e hm => by rw [hw0 _ hm] at e; cases e
  have nS : ∀ {b : Addr} {o : Obj}, h0.get? b = some o → b ≠ S := fun e hm => by rw [hm, hS0] at e; cases e
  intro k
  induction k with
  | zero =>
    intro j s vb c hk hj hst hk0 hPb hS hR
    have hin : j + 1 = n := by omega
    refine codeAny_builtin F.entry_max_loop ?_
    rw [Around.under_plainId F.plain_max_loop _]
    show wpAny _ A.in1 (seqItems? (.ref S) >>= _) _ _ s
    refine wpAny_bind (wpAny_seqItems hS rfl ?_)
    show wpAny _ A.in1 (tryCatch (pyNext (.ref I)) _ >>= _) _ _ s
    refine wpAny_bind (wpAny_tryCatch (W.done s _ _ (hin ▸ hst) fun h' tk hk' => ?_))
    have hS' := hk' S _ hSw hS
    show wpAny _ A.in1 (updateSeq S (fun _ => #[]) >>= _) _ _ _
    refine wpAny_bind ?_
    refine wpAny_updateSeq hS' rfl (wpAny_bind (wpAny_letGo (wpAny_pure ?_)))
    refine hR vb _ tk (by rw [← hin]; exact hPb) fun b o hbw hbS e => (Heap.get?_update_other _ _ (Ne.symm hbS)).trans (hk' b o hbw e)
  | succ k ih =>
    intro j s vb c hk hj hst hk0 hPb hS hR
    have hlt : j + 1 < n := by omega
    refine codeAny_builtin F.entry_max_loop ?_
    rw [Around.under_plainId F.plain_max_loop _]
    show wpAny _ A.in1 (seqItems? (.ref S) >>= _) _ _ s
    refine wpAny_bind (wpAny_seqItems hS rfl ?_)
    show wpAny _ A.in1 (tryCatch (pyNext (.ref I)) _ >>= _) _ _ s
    refine wpAny_bind (wpAny_tryCatch (W.item (j + 1) s _ _ hlt hst fun v h' tk hP hst' hk' => ?_))
    have hS' := hk' S _ hSw hS
    have hk1 : ∀ b o, h0.get? b = some o → h'.get? b = some o := fun b o e => hk' b o (nw e) (hk0 b o e)
    show wpAny _ A.in1 (tryCatch (holding [v, v] (richCompare .Gt v vb >>= _)) _ >>= _) _ _ _
    refine wpAny_bind (wpAny_tryCatch (wpAny_holding (wpAny_bind (hcmp (j + 1) (argBest bt j) v vb _ _ _ hP hPb hk1 ?_))))
    refine wpAny_bind (wpAny_holding (wpAny_truthy_bool ?_))
    refine wpAny_bind (wpAny_letGo (wpAny_pure ?_))
    cases hb : bt (j + 1) (argBest bt j) with
    | true =>
      simp only [if_true]
      refine wpAny_bind ?_
      refine wpAny_updateSeq hS' rfl (wpAny_bind (wpAny_letGo ?_))
      rw [hname]
      refine wpAny_pure ⟨plainId_quiet F.plain_max_loop _, ih (j + 1) _ v _ (by omega) hlt (W.frame _ _ _ hst' fun b hbf o e => ?_) (fun b o e => ?_) (by simp only [argBest, hb, if_true]; exact hP) (Heap.get?_update_self _ hS' rfl)
        fun v' h'' tk'' hP' hk'' => ?_⟩
      · exact (Heap.get?_update_other _ _ (fun h : S = b => hSf (by rw [h]; exact hbf))).trans e
      · exact (Heap.get?_update_other _ _ (Ne.symm (nS e))).trans (hk1 b o e)
      · exact hR v' h'' tk'' hP' fun b o hbw hbS e => hk'' b o hbw hbS ((Heap.get?_update_other _ _ (Ne.symm hbS)).trans (hk' b o hbw e))
    | false =>
      simp only [Bool.false_eq_true, if_false]
      refine wpAny_bind (wpAny_letGo ?_)
      rw [hname]
      refine wpAny_pure ⟨plainId_quiet F.plain_max_loop _, ih (j + 1) _ vb c (by omega) hlt hst' hk1 (by simp only [argBest, hb, Bool.false_eq_true, if_false]; exact hPb) hS' fun v' h'' tk'' hP' hk'' => ?_⟩
      exact hR v' h'' tk'' hP' fun b o hbw hbS e => hk'' b o hbw hbS (hk' b o hbw e)
theorem max_firstA (W : PySem.Walks prog w A.in1 I fp wr n P St) (bt : Nat → Nat → Bool) (hcmp : CmpAt prog w A.in1 .Gt h0 P bt) (S : Addr) (hSf : S ∉ fp) (hw0 : ∀ b ∈ wr, h0.get? b = none) (hS0 : h0.get? S = none) (hn : 0 < n) {s : Shared} {c : Nat} (hst : St 0 s.heap) (hk0 : ∀ b o, h0.get? b = some o → s.heap.get? b = some o)
    (hS : s.heap.get? S = some { cls := .type "list", dict := none, data := .seq #[] c, slots := #[] })
    (hR : ∀ v h' tk, P (argBest bt (n - 1)) v → (∀ b o, b ∉ wr → b ≠ S → s.heap.get? b = some o → h'.get? b = some o) → R (.ok (.ret v)) { s with heap := h', toks := tk }) :
    codeAny (model prog w) A (.builtin "max.loop" ⟨[.ref I, .none, .ref S], []⟩) R s := by
  have hSw : S ∉ wr := fun h => hSf (W.sub _ h)
  have hname : (toString "max" ++ toString ".loop" : String) = "max.loop" := by decide
  refine codeAny_builtin F.entry_max_loop ?_
  rw [Around.under_plainId F.plain_max_loop _]
  show wpAny _ A.in1 (seqItems? (.ref S) >>= _) _ _ s
  refine wpAny_bind (wpAny_seqItems hS rfl ?_)
  show wpAny _ A.in1 (tryCatch (pyNext (.ref I)) _ >>= _) _ _ s
  refine wpAny_bind (wpAny_tryCatch (W.item 0 s _ _ hn hst fun v h' tk hP hst' hk' => ?_))
  have hS' := hk' S _ hSw hS
  show wpAny _ A.in1 (updateSeq S (fun _ => #[v, v]) >>= _) _ _ _
  refine wpAny_bind ?_
  refine wpAny_updateSeq hS' rfl ?_
  rw [hname]
  refine wpAny_pure ⟨plainId_quiet F.plain_max_loop _, max_loopA W bt hcmp S hSf hw0 hS0 _ 0 _ v _ rfl hn (W.frame _ _ _ hst' fun b hbf o e => ?_) (fun b o e => ?_) hP (Heap.get?_update_self _ hS' rfl) fun v' h'' tk'' hP' hk'' => ?_⟩
  · exact (Heap.get?_update_other _ _ (fun h : S = b => hSf (by rw [h]; exact hbf))).trans e
  · exact (Heap.get?_update_other _ _ (fun h : S = b => by rw [← h, hS0] at e; cases e)).trans (hk' b o (fun hm => by rw [hw0 _ hm] at e; cases e) (hk0 b o e))
  · exact hR v' h'' tk'' hP' fun b o hbw hbS e => hk'' b o hbw hbS ((Heap.get?_update_other _ _ (Ne.symm hbS)).trans (hk' b o hbw e))
end
section
variable {prog : Program} {w : World} {A : Around} {E : Value → Shared → Prop} {s : Shared}
theorem max_walkA {x : Value} {Q : Value → Shared → Prop}
    (h : wpAny (model prog w) A.in1 (pyIter x) (fun it s₂ => ∃ I fp wr n P St bt, it = .ref I ∧ PySem.Walks prog w A.in1 I fp wr n P St ∧ St 0 s₂.heap ∧ (∀ b ∈ fp, b < s₂.heap.objs.size) ∧ 0 < n ∧ s.heap.objs.size ≤ s₂.heap.objs.size ∧ (∀ b o, s.heap.get? b = some o → s₂.heap.get? b = some o) ∧ (∀ b ∈ wr, s.heap.get? b = none) ∧ CmpAt prog w A.in1 .Gt s.heap P bt ∧
      ∀ v h' tk, P (argBest bt (n - 1)) v → (∀ b o, b ∉ wr → s₂.heap.get? b = some o → h'.get? b = some o) → Q v { s₂ with heap := h', toks := tk }) E s) :
    wpAny (model prog w) A (call (.builtin "max") [x]) Q E s := by
  have hname : (toString "max" ++ toString ".loop" : String) = "max.loop" := by decide
  refine call_function_tree F.kind_max F.plain_max F.entry_max (F.args_max1 _) ?_
  show wpAny _ A.in1 (Builtin.Builtins.bindParams "max" ["key", "default"] 0 ⟨[], []⟩ >>= _) _ _ s
  refine wpAny_bind (wpAny_of_eq (show Builtin.Builtins.bindParams "max" ["key", "default"] 0 ⟨[], []⟩ = pure [none, none] from rfl) ?_)
  refine wpAny_bind (wpAny_pure ?_)
  refine wpAny_bind (wpAny_mono h (fun it s₂ h₂ => ?_) fun _ _ e => e)
  obtain ⟨I, fp, wr, n, P, St, bt, rfl, W, hst, hfp, hn, hsz, hk0, hw0, hcmp, hQ⟩ := h₂
  refine wpAny_bind (wpAny_newObj_type ?_)
  have hSf : s₂.heap.objs.size ∉ fp := fun hm => Nat.lt_irrefl _ (hfp _ hm)
  have hS0 : s.heap.get? s₂.heap.objs.size = none := by
    cases e : s.heap.get? s₂.heap.objs.size with
    | none => rfl
    | some o => exact absurd (Heap.lt_size e) (Nat.not_lt.mpr hsz)
  rw [hname]
  refine wpAny_pure ⟨plainId_quiet F.plain_max_loop _, max_firstA W bt hcmp s₂.heap.objs.size hSf hw0 hS0 hn (W.frame _ _ _ hst fun b _ o e => Heap.get?_push_of_some _ e) (fun b o e => Heap.get?_push_of_some _ (hk0 b o e)) (Heap.get?_push_size _ rfl) fun v h' tk hP hk => ?_⟩
  exact hQ v h' tk hP fun b o hbw e => hk b o hbw (Nat.ne_of_lt (Heap.lt_size e)) (Heap.get?_push_of_some _ e)
end
/-- the places of a row that reads as data -/
theorem max_cmp {prog : Program} {w : World} {A : Around} {h0 : Heap} {its : List Value} {ds : List PyData} (hr : ∀ (i : Nat) (v : Value), its[i]? = some v → ∃ d as, ds[i]? = some d ∧ Reads h0 v d as) (hal : ∀ d ∈ ds, ∀ e ∈ ds, PySem.W.alike d e = true) (hn : ∀ d ∈ ds, d ≠ .none) (hu : ∀ d ∈ ds, A.units + d.depth < cLine) :
    CmpAt prog w A .Gt h0 (fun i v => its[i]? = some v) (fun i j => PySem.W.dataLt (ds.getD j .none) (ds.getD i .none)) := by
  intro i j vi vj s Q E hi hj hk h
  obtain ⟨d, as, e1, r1⟩ := hr i vi hi
  obtain ⟨e, bs, e2, r2⟩ := hr j vj hj
  have m1 := List.mem_of_getElem? e1
  have m2 := List.mem_of_getElem? e2
  have room : A.units + min d.depth e.depth < cLine := Nat.lt_of_le_of_lt (Nat.add_le_add_left (Nat.min_le_left _ _) _) (hu d m1)
  simp only [] at h
  rw [show ds.getD i .none = d by rw [List.getD_eq_getElem?_getD, e1]; rfl, show ds.getD j .none = e by rw [List.getD_eq_getElem?_getD, e2]; rfl] at h
  exact PySem.W.rcGt_alike d e A s vi vj as bs (PyProof.Rows.Reads.keeps hk r1) (PyProof.Rows.Reads.keeps hk r2) (hal d m1 e m2) (hn d m1) room prog w E Q h
def btmax (ds : List PyData) (i j : Nat) : Bool := PySem.W.dataLt (ds.getD j .none) (ds.getD i .none)
def maxI0 (ds : List PyData) : Nat := argBest (btmax ds) (ds.length - 1)
section
variable {prog : Program} {w : World} {A : Around} {E : Value → Shared → Prop} {s : Shared}
theorem max_listA {l : Addr} {its : List Value} {ds : List PyData} {Q : Value → Shared → Prop} (hh : A.handled = none) (hl : s.heap.IsList l its.toArray ∨ s.heap.IsTuple l its.toArray) (hlen : ds.length = its.length) (hne : 0 < its.length) (hr : ∀ (i : Nat) (v : Value), its[i]? = some v → ∃ d as, ds[i]? = some d ∧ Reads s.heap v d as)
    (hal : ∀ d ∈ ds, ∀ e ∈ ds, PySem.W.alike d e = true) (hn : ∀ d ∈ ds, d ≠ .none) (hu : ∀ d ∈ ds, A.units + 1 + d.depth < cLine)
    (h : ∀ v h' tk, its[maxI0 ds]? = some v → (∀ b o, s.heap.get? b = some o → h'.get? b = some o) → Q v { s with heap := h', toks := tk }) : wpAny (model prog w) A (call (.builtin "max") [.ref l]) Q E s := by
  have hc := max_cmp (prog := prog) (w := w) (A := A.in1) hr hal hn hu
  have hlt : l < s.heap.objs.size := by rcases hl with ⟨_, e, _⟩ | ⟨_, e, _⟩ <;> exact Heap.lt_size e
  have fpb : ∀ (o : Obj), ∀ b ∈ [s.heap.objs.size, l], b < (s.heap.push o).objs.size := fun o b hb => by
    rw [Heap.size_push]
    rcases List.mem_cons.mp hb with rfl | hb
    · exact Nat.lt_succ_self _
    · rcases List.mem_cons.mp hb with rfl | hb
      · exact Nat.lt_succ_of_lt hlt
      · cases hb
  have wrn : ∀ b ∈ [s.heap.objs.size], s.heap.get? b = none := fun b hb => by
    simp at hb; subst hb
    cases e : s.heap.get? s.heap.objs.size with
    | none => rfl
    | some o => exact absurd (Heap.lt_size e) (Nat.lt_irrefl _)
  have old : ∀ {o : Obj} {h' : Heap}, (∀ b u, b ∉ [s.heap.objs.size] → (s.heap.push o).get? b = some u → h'.get? b = some u) → ∀ b u, s.heap.get? b = some u → h'.get? b = some u := fun hk b u e => by
    refine hk b u (fun hm => ?_) (Heap.get?_push_of_some _ e)
    rcases List.mem_cons.mp hm with e1 | hm
    · exact absurd (e1 ▸ Heap.lt_size e) (Nat.lt_irrefl _)
    · cases hm
  refine max_walkA ?_
  rcases hl with hl | hl
  · refine wpAny_pyIter_list hl ?_
    refine ⟨_, _, _, _, _, _, _, rfl, PySem.Walks.list (A := A.in1) hh _ l (Nat.ne_of_lt hlt) its.toArray, ⟨⟨_, Heap.get?_push_size _ rfl, rfl, rfl⟩, hl.push _⟩, fpb _, by simpa using hne, by rw [Heap.size_push]; omega, fun b o e => Heap.get?_push_of_some _ e, wrn, (by simpa using hc), fun v h' tk hP hk => ?_⟩
    refine h v h' tk ?_ (old hk)
    simp only [List.size_toArray, ← hlen, List.getElem?_toArray] at hP
    exact hP
  · refine wpAny_pyIter_tuple hl ?_
    refine ⟨_, _, _, _, _, _, _, rfl, PySem.Walks.tuple (A := A.in1) hh _ l (Nat.ne_of_lt hlt) its.toArray, ⟨⟨_, Heap.get?_push_size _ rfl, rfl, rfl⟩, hl.push _⟩, fpb _, by simpa using hne, by rw [Heap.size_push]; omega, fun b o e => Heap.get?_push_of_some _ e, wrn, (by simpa using hc), fun v h' tk hP hk => ?_⟩
    refine h v h' tk ?_ (old hk)
    simp only [List.size_toArray, ← hlen, List.getElem?_toArray] at hP
    exact hP
end
section
variable {X : Cx}
def rmaxD (K : PySem.W.Frag) : List V → Hp → VK → Prop := fun vs H Q => ∃ (a : Addr) (xs : List V) (ds : List PyData), vs = [V.ref a] ∧ (SqL K H a xs ∨ SqT K H a xs) ∧ DpAll K H xs ds ∧ 0 < xs.length ∧ (∀ d ∈ ds, ∀ e ∈ ds, PySem.W.alike d e = true) ∧ (∀ d ∈ ds, d ≠ .none) ∧ (∀ d ∈ ds, d.depth ≤ 60) ∧
  ∀ v, xs[maxI0 ds]? = some v → Q v H
theorem cr_maxD (hc : X.calm = true) (hu : X.A.units + 64 < cLine) : CallR X (.builtin "max") (rmaxD X.K) := by
  intro pins s σ H vs us Q I r h
  obtain ⟨a, xs, ds, rfl, hs, hd, hne, hal, hn, hdep, q⟩ := h
  rw [Vals.ref1 r]
  have key : ∀ its : List Value, Vals xs its → (s.heap.IsList a its.toArray ∨ s.heap.IsTuple a its.toArray) → wpAny (model X.prog X.w) X.A (call (.builtin "max") [.ref a]) (EP X pins σ Q) X.xe s := fun its rv hl => by
    have hl1 := rv.length
    have hl2 := dpAll_len hd
    refine max_listA (I.ok.hd hc) hl (by omega) (by omega) (fun i v hv => ?_) hal hn (fun d hd => by have := hdep d hd; omega) fun v h' tk hv hk => ?_
    · obtain ⟨x, hx, rx⟩ := vals_get rv hv
      obtain ⟨d, e1, e2⟩ := dpAll_get hd hx
      obtain ⟨as, r2⟩ := Dp.reads I d x v e2 rx
      exact ⟨d, as, e1, r2⟩
    · obtain ⟨x, hx, rx⟩ := vals_get rv hv
      exact ⟨x, H, I.kept hk, rx, q x hx⟩
  rcases hs with hs | hs
  · obtain ⟨its, rv, hl, _⟩ := I.list hs
    exact key _ rv (.inl hl.isList)
  · obtain ⟨its, rv, hl, _⟩ := I.tuple hs
    exact key _ rv (.inr hl)
end
/-- the plain function -/
noncomputable def max1F (x : Out) (m : Mem) : Option (Out × Mem) := (seqOf x m).bind fun xs => open Classical in if okL 60 xs = true ∧ xs ≠ [] ∧ (∀ d ∈ pdL xs, ∀ e ∈ pdL xs, PySem.W.alike d e = true) ∧ (∀ d ∈ pdL xs, d ≠ .none) then (xs[maxI0 (pdL xs)]?).map fun d => (.v d, m) else none
theorem max1U {K : PySem.W.Frag} : R1S K (fun v H Q => rmaxD K [v] H Q) max1F := by
  intro ι H H0 m x z vx m' Q rm bd rx hf k
  obtain ⟨xs, h1, hf⟩ := bind_some hf
  split at hf
  · rename_i hc
    obtain ⟨d, e1, e2⟩ := Option.map_eq_some_iff.mp hf
    cases e2
    obtain ⟨a, vs, rfl, hs, r⟩ := seq_at rm rx h1
    refine ⟨a, vs, pdL xs, rfl, hs, RVs.dp r hc.1, by rw [← r.length]; exact List.length_pos_iff.mpr hc.2.1, hc.2.2.1, hc.2.2.2, fun d hd => ?_, fun v hv => ?_⟩
    · obtain ⟨d', hd', rfl⟩ := pdL_mem hd
      exact (pd_lay d' 60 (okL_mem hc.1 hd')).2
    · obtain ⟨v', e3, rv⟩ := r.get e1
      rw [hv] at e3; cases e3
      exact k _ ι H (Le.refl _ _) rm rv
  · cases hf
section
variable {X : Cx} {a : Expr} {p pos : Pos} {fa : E} {kk : Nat}
theorem max1_ (hr : Room kk X.A) (hm : X.mg "max" = none) (ha : SE X a fa) (hc : X.calm = true := by rfl) (hg : Gl X "max" := by rfl) (hs : starEach [a] X.env = (false, eval a X.env) :: starEach [] X.env := by rfl) (hpl : (backTo pos (starEach [] X.env)).any (·.1) = false := by rfl) : SE X (.Call (.Name "max" p) [a] [] pos) (eUn max1F fa) :=
  se_b1 (pe_callB (cr_maxD hc hr.units) hg hm (by decide +kernel) (pa1 ha hs) (by decide) (by decide) hs hpl) max1U
end
end Q
/-! sorted(x): a list, a tuple or a dict's keys, data that are alike -/
namespace Q
section
open PySem PySem.Calls PyProof.Rows
variable {prog : Program} {w : World} {A : Around} {E : Value → Shared → Prop} {s : Shared}
theorem collect_tuple {l : Addr} {vs : List Value} {Q : List Value → Shared → Prop} (hl : s.heap.IsTuple l vs.toArray) (hsz : vs.length ≤ sizeLine)
    (h : Q vs { s with heap := (s.heap.push (seqObj "list" #[] 0)).update s.heap.objs.size (Obj.mapSeq (· ++ vs.toArray)) }) :
    wpAny (model prog w) A (collect (.ref l)) Q E s := by
  obtain ⟨o, ho, hc, n, hd⟩ := id hl
  unfold collect
  refine wpAny_bind (wpAny_runValue (codeAny_builtin entry_proto_collect' ?_))
  show wpAny _ _ (do again (.builtin "list.__iadd__" ⟨[← newList [], .ref l], []⟩)) _ _ s
  refine wpAny_bind (wpAny_newList (wpAny_pure ⟨Code.quiet_builtin _ (by decide +kernel), codeAny_builtin entry_list_iadd' ?_⟩))
  show wpAny _ _ (Builtin.List.listExtendWith (.ref s.heap.objs.size) (.ref l) (.ref s.heap.objs.size)) _ _ { s with heap := s.heap.push (seqObj "list" #[] 0) }
  unfold Builtin.List.listExtendWith
  have ho' : (s.heap.push (seqObj "list" #[] 0)).get? l = some o := Heap.get?_push_of_some _ ho
  refine wpAny_bind (wpAny_typeOf (T := "tuple") ⟨o, ho', hc⟩ ?_)
  have ht : (Value.type "tuple" == Value.type "tuple") = true := by rfl
  rw [if_pos (by rw [ht]; simp)]
  refine wpAny_bind (listItems_at ho' hd ?_)
  refine wpAny_bind (listItems_at (xs := #[]) (n := 0) (Heap.get?_push_size _ rfl) rfl ?_)
  rw [if_neg (by simp)]
  refine wpAny_bind (listUpdate_at (xs := #[]) (n := 0) (Heap.get?_push_size _ rfl) rfl ?_ (Nat.zero_le _) (by show (#[] ++ vs.toArray).size ≤ sizeLine + 1; simp only [Array.size_append, List.size_toArray, List.length_nil]; omega))
  refine wpAny_pure ?_
  show wpAny (model prog w) A (do
      let o ← load s.heap.objs.size
      match o.data with
      | .seq xs _ => pure xs.toList
      | _ => unsupported "internal:collect") Q E { s with heap := (s.heap.push (seqObj "list" #[] 0)).update s.heap.objs.size (Obj.mapSeq (· ++ vs.toArray)) }
  refine wpAny_bind (wpAny_load (get?_update_seq (Heap.get?_push_size _ rfl) _) ?_)
  show wpAny _ _ (pure ((#[] : Array Value) ++ vs.toArray).toList) Q E _
  rw [show ((#[] : Array Value) ++ vs.toArray).toList = vs by simp]
  exact wpAny_pure h
theorem kdl_raw {d : Addr} {es : Array DictEntry} {ep : Nat} (lo : (d == sysModules) = false) : PySem.W.KdlSrc prog w "dict" d d es.size (fun i v => ∃ hi : i < es.size, v = es[i].key) (fun h => h.DictRaw d es ep) where
  type := fun _ hm => hm.typeIs
  there := fun _ hm => by obtain ⟨o, ho, _⟩ := hm; exact ⟨Heap.lt_size ho, Heap.lt_size ho⟩
  keep := fun _ _ hm hk => hm.at fun o e => hk d (.inl rfl) o e
  notList := by decide
  notTuple := by decide
  hint := fun _ _ _ _ hm hq => PySem.W.kdl_hint_dict hm.typeIs hq
  iter := fun _ _ hh hm => ⟨_, _, (fun _ _ hq => wpAny_pyIter_dict_raw lo hm hq), PySem.Walks.rawKeys hh _ d (by obtain ⟨o, ho, _⟩ := hm; exact Nat.ne_of_lt (Heap.lt_size ho)) es ep, ⟨⟨_, Heap.get?_push_size _ rfl, rfl, rfl⟩, hm.at fun o e => Heap.get?_push_of_some _ e⟩⟩
theorem collect_raw {d : Addr} {es : Array DictEntry} {ep : Nat} {Q : List Value → Shared → Prop} (hh : A.handled = none) (lo : (d == sysModules) = false) (hm : s.heap.DictRaw d es ep) (hn : es.size ≤ sizeLine)
    (h : ∀ h' tk, s.heap.objs.size ≤ h'.objs.size → (∀ b o, s.heap.get? b = some o → h'.get? b = some o) → Q (es.toList.map (·.key)) { s with heap := h', toks := tk }) :
    wpAny (model prog w) A (collect (.ref d)) Q E s := by
  have hdlt : d < s.heap.objs.size := by obtain ⟨o, ho, _⟩ := hm; exact Heap.lt_size ho
  unfold collect
  refine wpAny_bind (wpAny_runValue (codeAny_builtin entry_proto_collect' ?_))
  show wpAny _ _ (do again (.builtin "list.__iadd__" ⟨[← newList [], .ref d], []⟩)) _ _ s
  refine wpAny_bind (wpAny_newList (wpAny_pure ⟨Code.quiet_builtin _ (by decide +kernel), codeAny_builtin entry_list_iadd' ?_⟩))
  show wpAny _ _ (Builtin.List.listExtendWith (.ref s.heap.objs.size) (.ref d) (.ref s.heap.objs.size)) _ _ { s with heap := s.heap.push (seqObj "list" #[] 0) }
  rw [Around.under_plainId (by decide +kernel) _]
  have e : ∀ acc' : Array Value, ItemsOf (fun i v => ∃ hi : i < es.size, v = es[i].key) acc' es.size → acc'.toList = es.toList.map (·.key) := fun acc' hacc => by
    apply List.ext_getElem?
    intro i
    by_cases hi : i < es.size
    · have hi' : i < acc'.size := by rw [hacc.1]; exact hi
      obtain ⟨_, e⟩ := hacc.2 i acc'[i] (Array.getElem?_eq_getElem hi')
      rw [Array.getElem?_toList, Array.getElem?_eq_getElem hi', e, List.getElem?_map, Array.getElem?_toList, Array.getElem?_eq_getElem hi]; rfl
    · rw [List.getElem?_eq_none (by rw [Array.length_toList, hacc.1]; omega), List.getElem?_eq_none (by rw [List.length_map, Array.length_toList]; omega)]
  have fin : ∀ h' tk acc' c', (∀ b o, b ≠ s.heap.objs.size → (s.heap.push (seqObj "list" #[] 0)).get? b = some o → h'.get? b = some o) → h'.get? s.heap.objs.size = some { cls := .type "list", dict := none, data := .seq acc' c', slots := #[] } → ItemsOf (fun i v => ∃ hi : i < es.size, v = es[i].key) acc' es.size →
      wpAny (model prog w) A (do
      let o ← load s.heap.objs.size
      match o.data with
      | .seq xs _ => pure xs.toList
      | _ => unsupported "internal:collect") Q E { s with heap := h', toks := tk } := fun h' tk acc' c' hk hS' hacc => by
    refine wpAny_bind (wpAny_load hS' ?_)
    show wpAny _ _ (pure acc'.toList) Q E _
    rw [e acc' hacc]
    exact wpAny_pure (h h' tk (Nat.le_of_lt (Heap.lt_size hS')) fun b o eb => hk b o (Nat.ne_of_lt (Heap.lt_size eb)) (Heap.get?_push_of_some _ eb))
  refine wpAny_mono (PySem.W.kdl_extend (s := { s with heap := s.heap.push (seqObj "list" #[] 0) }) (R := fun r s' => ∃ h' tk acc' c', r = .ok (.ret (.ref s.heap.objs.size)) ∧ s' = { s with heap := h', toks := tk } ∧ (∀ b o, b ≠ s.heap.objs.size → (s.heap.push (seqObj "list" #[] 0)).get? b = some o → h'.get? b = some o) ∧ h'.get? s.heap.objs.size = some { cls := .type "list", dict := none, data := .seq acc' c', slots := #[] } ∧ ItemsOf (fun i v => ∃ hi : i < es.size, v = es[i].key) acc' es.size)
    (kdl_raw lo) hh (hm.at fun o e => Heap.get?_push_of_some _ e) s.heap.objs.size (Nat.ne_of_gt hdlt) (Nat.ne_of_gt hdlt) (.ref s.heap.objs.size) 0 (Heap.get?_push_size _ rfl) (fun h' tk acc' c' hk hS' hacc => ⟨h', tk, acc', c', rfl, rfl, hk, hS', hacc⟩) hn) (fun fn s' hf => ?_) (fun ex s' hf => ?_)
  · cases fn with
    | done f =>
      obtain ⟨h', tk, acc', c', h1, rfl, h3, h4, h5⟩ := hf
      cases h1
      exact fin h' tk acc' c' h3 h4 h5
    | again c =>
      refine ⟨hf.1, codeAny_mono hf.2 fun r s' hr => ?_⟩
      obtain ⟨h', tk, acc', c', rfl, rfl, h3, h4, h5⟩ := hr
      exact fin h' tk acc' c' h3 h4 h5
  · obtain ⟨h', tk, acc', c', h1, _⟩ := hf
    cases h1
/-- sorted of what can be gone through -/
theorem sorted_dataA {x : Value} {β : Type} {vs : List Value} {bs : List β} {enc : β → PyData} {R : Value → β → Prop} {Q : Value → Shared → Prop}
    (hcol : ∀ (E' : Value → Shared → Prop) (Q' : List Value → Shared → Prop), (∀ h' tk, s.heap.objs.size ≤ h'.objs.size → (∀ b o, s.heap.get? b = some o → h'.get? b = some o) → Q' vs { s with heap := h', toks := tk }) → wpAny (model prog w) A.in1 (collect x) Q' E' s)
    (e : PySem.W.EachIs R vs bs) (er : PySem.W.EachIs (fun v b => ∃ as, Reads s.heap v (enc b) as) vs bs) (hal : PySem.W.AllAlike (bs.map enc)) (hk : PySem.W.Sortable (bs.map enc)) (hL : bs.length ≤ sizeLine)
    (hu : ∀ b, b ∈ bs → A.units + 2 + (enc b).depth < cLine)
    (h : ∀ h' tk p ep (out : List Value), (∀ b o, s.heap.get? b = some o → h'.get? b = some o) → s.heap.objs.size ≤ p → PySem.W.EachIs R out (bs.mergeSort (PySem.W.dataLe false enc)) → h'.get? p = some (seqObj "list" out.toArray ep) → Q (.ref p) { s with heap := h', toks := tk }) :
    wpAny (model prog w) A (call (.builtin "sorted") [x]) Q E s := by
  have hLv : vs.length ≤ sizeLine := by rw [e.length]; exact hL
  refine PySem.Calls.call_function_entry kind_sorted plain_sorted entry_sorted (args_sorted1 _) ?_
  unfold Builtin.«sorted»
  refine wpAny_bind (m := checkCount "sorted" 1 1 _) (wpAny_pure ?_)
  refine wpAny_bind (hcol _ _ fun h' tk hle hk' => ?_)
  refine wpAny_bind (wpAny_newList ?_ hLv)
  show wpAny _ _ _ _ _ { s with heap := h'.push (seqObj "list" vs.toArray 0), toks := tk }
  have ho : (h'.push (seqObj "list" vs.toArray 0)).get? h'.objs.size = some (seqObj "list" vs.toArray 0) := Heap.get?_push_size _ rfl
  refine wpAny_bind (wpAny_holding (PyProof.Rows.wpAny_call_entry_kw slot_list_sort ⟨_, ho, rfl⟩ entry_list_sort ?body (args_list_sort _)))
  case body =>
    show wpAny (model prog w) A.in1.in1 (Builtin.«list.sort» ⟨[.ref h'.objs.size], []⟩) _ _ _
    have kp : ∀ b o, s.heap.get? b = some o → (PySem.W.sortingHeap (h'.push (seqObj "list" vs.toArray 0)) h'.objs.size vs).get? b = some o := fun b o eb => by
      have := hk' b o eb
      exact PySem.W.sortingHeap_old (Nat.ne_of_lt (Heap.lt_size this)) (Heap.get?_push_of_some _ this)
    have er' : PySem.W.EachIs (fun v b => ∃ as, Reads (PySem.W.sortingHeap (h'.push (seqObj "list" vs.toArray 0)) h'.objs.size vs) v (enc b) as) vs bs := er.mono fun _ _ ⟨as, r⟩ => ⟨as, PyProof.Rows.Reads.keeps kp r⟩
    refine PySem.W.list_sort_vals (s := { s with heap := h'.push (seqObj "list" vs.toArray 0), toks := tk }) ho (PySem.W.SortsAt.data (s := { s with heap := PySem.W.sortingHeap (h'.push (seqObj "list" vs.toArray 0)) h'.objs.size vs, toks := tk }) (PySem.W.each_map (R := fun v d => ∃ as, Reads (PySem.W.sortingHeap (h'.push (seqObj "list" vs.toArray 0)) h'.objs.size vs) v d as) enc er') hal hk (PySem.W.bound_map hu)) hLv ?_
    refine ⟨_, rfl, wpAny_pure ⟨_, rfl, ?_⟩⟩
    obtain ⟨ep, he⟩ := sortedHeap_at (out := (PySem.W.sortVals (PySem.W.dataKind (PySem.W.sortingHeap (h'.push (seqObj "list" vs.toArray 0)) h'.objs.size vs) (bs.map enc)) false vs vs).toArray) ho
    refine h _ _ _ ep _ (fun b o eb => ?_) hle (PySem.W.sortVals_data false e er' hal) he
    have q := hk' b o eb
    have hlt := Heap.lt_size q
    rw [sortedHeap_old (Nat.ne_of_lt hlt) (by rw [Heap.size_push]; exact Nat.lt_succ_of_lt hlt)]
    exact Heap.get?_push_of_some _ q
end
section
open PySem L2
theorem each_of_vals {bs : List (D × V)} : ∀ {us : List Value}, Vals (bs.map (·.2)) us → PySem.W.EachIs (fun u b => RelV b.2 u) us bs := by
  induction bs with
  | nil => intro us h; rw [List.map_nil] at h; cases h; exact .nil
  | cons b bs ih =>
    intro us h
    rw [List.map_cons] at h
    cases h with
    | cons r t => exact .cons r (ih t)
theorem vals_of_each {bs : List (D × V)} : ∀ {us : List Value}, PySem.W.EachIs (fun u b => RelV b.2 u) us bs → Vals (bs.map (·.2)) us := by
  induction bs with
  | nil => intro us h; cases h; exact Paired.nil
  | cons b bs ih =>
    intro us h
    cases h with
    | cons r t => exact Paired.cons r (ih t)
/-- what is gone through: a list, a tuple, a dict's keys -/
def Gone (K : PySem.W.Frag) (H : Hp) (a : Addr) (xs : List V) : Prop := (SqL K H a xs ∨ SqT K H a xs) ∨ ∃ es : Array DictEntry, H a = some (RawO a es) ∧ (a == sysModules) = false ∧ Vals xs (es.toList.map (·.key)) ∧ es.size ≤ sizeLine
def SrtOk (ds : List D) : Prop := okL 60 ds = true ∧ PySem.W.AllAlike (ds.map D.pd) ∧ PySem.W.Sortable (ds.map D.pd) ∧ fits ds.length
def leD (a b : D) : Bool := PySem.W.dataLe false D.pd a b
def rSrtD (K : PySem.W.Frag) : List V → Hp → VK → Prop := fun vs H Q => ∃ (a : Addr) (bs : List (D × V)), vs = [V.ref a] ∧ Gone K H a (bs.map (·.2)) ∧ (∀ b ∈ bs, Dp K H b.2 b.1.pd) ∧ SrtOk (bs.map (·.1)) ∧
  ∀ p, H p = none → Q (.ref p) (upd H p (.lst ((bs.mergeSort fun x y => leD x.1 y.1).map (·.2))))
variable {X : Cx}
theorem cr_srtD (hc : X.calm = true) (hu : X.A.units + 64 < cLine) : CallR X (.builtin "sorted") (rSrtD X.K) := by
  intro pins s σ H vs us Q I r h
  obtain ⟨a, bs, rfl, hs, hd, hok, q⟩ := h
  rw [Vals.ref1 r]
  obtain ⟨k1, k2, k3, k4⟩ := hok
  rw [List.map_map] at k2 k3
  have k4' : bs.length ≤ sizeLine := by rw [List.length_map] at k4; exact k4
  have hdep : ∀ b ∈ bs, b.1.pd.depth ≤ 60 := fun b hb => (pd_lay b.1 60 (okL_mem k1 (List.mem_map.mpr ⟨b, hb, rfl⟩))).2
  have key : ∀ us' : List Value, Vals (bs.map (·.2)) us' → (∀ (E' : Value → Shared → Prop) (Q' : List Value → Shared → Prop), (∀ h' tk, s.heap.objs.size ≤ h'.objs.size → (∀ b o, s.heap.get? b = some o → h'.get? b = some o) → Q' us' { s with heap := h', toks := tk }) → wpAny (model X.prog X.w) X.A.in1 (collect (.ref a)) Q' E' s) →
      wpAny (model X.prog X.w) X.A (call (.builtin "sorted") [.ref a]) (EP X pins σ Q) X.xe s := fun us' rv hcol => by
    have e := each_of_vals rv
    have er : PySem.W.EachIs (fun v b => ∃ as, Reads s.heap v ((fun b : D × V => b.1.pd) b) as) us' bs := by
      refine PySem.W.EachIs.of_zip e.length fun p hp => ?_
      have h1 := e.zip p hp
      have h2 : p.2 ∈ bs := (List.of_mem_zip hp).2
      exact Dp.reads I _ _ _ (hd _ h2) h1
    refine sorted_dataA (enc := fun b : D × V => b.1.pd) hcol e er k2 k3 k4' (fun b hb => by have := hdep b hb; omega) fun h' tk p ep out hk hp ho he => ?_
    have hv := vals_of_each ho
    refine ⟨.ref p, upd H p (.lst ((bs.mergeSort fun x y => leD x.1 y.1).map (·.2))), I.laid (t' := tk) hk hp ⟨?_, out, ep, hv, he⟩, rfl, q p (I.hok.fresh hp)⟩
    rw [List.length_map, List.length_mergeSort]
    exact k4'
  rcases hs with (hs | hs) | ⟨es, ha, lo, rv, hz⟩
  · obtain ⟨its, rv, hl, hz⟩ := I.list hs
    refine key _ rv fun E' Q' hq => ?_
    refine PyProof.Rows.collect_list hl.isList (hq _ s.toks ?_ ?_) (by rw [← rv.length]; exact hz)
    · rw [Heap.size_update, Heap.size_push]; omega
    · intro b o e
      have := Heap.lt_size e
      rw [Heap.get?_update_ne _ _ _ _ (Nat.ne_of_lt this)]
      exact Heap.get?_push_of_some _ e
  · obtain ⟨its, rv, hl, hz⟩ := I.tuple hs
    refine key _ rv fun E' Q' hq => ?_
    refine collect_tuple hl (by rw [← rv.length]; exact hz) (hq _ s.toks ?_ ?_)
    · rw [Heap.size_update, Heap.size_push]; omega
    · intro b o e
      have := Heap.lt_size e
      rw [Heap.get?_update_ne _ _ _ _ (Nat.ne_of_lt this)]
      exact Heap.get?_push_of_some _ e
  · obtain ⟨hr, _⟩ := (show ObjOk X.prog X.w H s.heap a (RawO a es) from I.hok a _ ha)
    refine key _ rv fun E' Q' hq => ?_
    exact collect_raw (I.ok.hd hc) lo hr hz hq
theorem rvs_of {K : PySem.W.Frag} {ι : List Addr} {H : Hp} : ∀ {bs : List (D × V)}, (∀ b ∈ bs, RV K ι H b.1 b.2) → RVs K ι H (bs.map (·.1)) (bs.map (·.2))
  | [], _ => .nil
  | b :: bs, h => .cons (h b (by simp)) (rvs_of fun c hc => h c (by simp [hc]))
theorem rvs_zip {K : PySem.W.Frag} {ι : List Addr} {H : Hp} : ∀ {ds : List D} {vs : List V}, RVs K ι H ds vs → ∃ bs : List (D × V), bs.map (·.1) = ds ∧ bs.map (·.2) = vs ∧ ∀ b ∈ bs, RV K ι H b.1 b.2
  | _, _, .nil => ⟨[], rfl, rfl, by simp⟩
  | _, _, .cons (d := d) (v := v) r t => by
    obtain ⟨bs, h1, h2, h3⟩ := rvs_zip t
    refine ⟨(d, v) :: bs, by simp [h1], by simp [h2], fun b hb => ?_⟩
    rcases List.mem_cons.mp hb with rfl | hb
    · exact r
    · exact h3 b hb
noncomputable def srtF (x : Out) (m : Mem) : Option (Out × Mem) := (seqOf x m).bind fun ds => open Classical in if SrtOk ds then some (.o (.lst (ds.mergeSort leD)), m) else none
noncomputable def srdF (x : Out) (m : Mem) : Option (Out × Mem) := (dctOf x m).bind fun kvs => open Classical in if SrtOk (kvs.map (·.1)) then some (.o (.lst ((kvs.map (·.1)).mergeSort leD)), m) else none
theorem srt_fin {K : PySem.W.Frag} {ι : List Addr} {H : Hp} {m : Mem} {a : Addr} {bs : List (D × V)} {Q : VK} (rm : RM K ι H m) (hg : Gone K H a (bs.map (·.2))) (hb : ∀ b ∈ bs, RV K ι H b.1 b.2) (hok : SrtOk (bs.map (·.1)))
    (k : ∀ v ι' H', Le ι H ι' H' → RM K ι' H' m → RO K H ι' H' (.o (.lst ((bs.map (·.1)).mergeSort leD))) v → Q v H') : rSrtD K [.ref a] H Q := by
  refine ⟨a, bs, rfl, hg, fun b h => (hb b h).dp (okL_mem hok.1 (List.mem_map.mpr ⟨b, h, rfl⟩)), hok, fun p hn => ?_⟩
  have e : (bs.map (·.1)).mergeSort leD = (bs.mergeSort fun x y => leD x.1 y.1).map (·.1) := (List.map_mergeSort (r := fun x y : D × V => leD x.1 y.1) (s := leD) (f := (·.1)) (l := bs) (fun _ _ _ _ => rfl)).symm
  rw [e] at k
  exact k _ ι _ (Le.newAt hn) (rm.newAt hn) (new_lst rm hn (rvs_of fun b h => hb b ((List.mergeSort_perm _ _).mem_iff.mp h)))
theorem srtU {K : PySem.W.Frag} : R1S K (fun v H Q => rSrtD K [v] H Q) srtF := by
  intro ι H H0 m x z vx m' Q rm bd rx hf k
  obtain ⟨xs, h1, hf⟩ := bind_some hf
  split at hf
  · rename_i hc
    cases hf
    obtain ⟨a, vs, rfl, hs, r⟩ := seq_at rm rx h1
    obtain ⟨bs, rfl, rfl, hb⟩ := rvs_zip r
    exact srt_fin rm (.inl hs) hb hc k
  · cases hf
theorem dr_zip {K : PySem.W.Frag} {ι : List Addr} {H : Hp} : ∀ {kvs : List (D × D)} {ks : List (NestedKey × V)} {es : List DictEntry}, DR K ι H kvs ks → Paired (EntV K H) ks es → ∃ bs : List (D × V), bs.map (·.1) = kvs.map (·.1) ∧ Vals (bs.map (·.2)) (es.map (·.key)) ∧ ∀ b ∈ bs, RV K ι H b.1 b.2
  | _, _, _, .nil, .nil => ⟨[], rfl, Paired.nil, by simp⟩
  | _, _, _, .cons (a := kv) r t, .cons (b := e) q u => by
    obtain ⟨bs, h1, h2, h3⟩ := dr_zip t u
    obtain ⟨⟨x, hx, rx⟩, _⟩ := q
    refine ⟨(kv.1, x) :: bs, by simp [h1], Paired.cons rx h2, fun b hb => ?_⟩
    rcases List.mem_cons.mp hb with rfl | hb
    · have := hx.rv (ι := ι)
      rw [← r.1] at this
      exact this
    · exact h3 b hb
theorem srdU {K : PySem.W.Frag} : R1S K (fun v H Q => rSrtD K [v] H Q) srdF := by
  intro ι H H0 m x z vx m' Q rm bd rx hf k
  obtain ⟨xs, h1, hf⟩ := bind_some hf
  split at hf
  · rename_i hc
    cases hf
    obtain ⟨a, ks, rfl, hr, r⟩ := dct_at rm rx h1
    obtain ⟨es, ha, hp, hn, hz, lo⟩ := hr
    obtain ⟨bs, e1, e2, e3⟩ := dr_zip r hp
    rw [← e1] at hc k
    exact srt_fin rm (.inr ⟨es, ha, lo, e2, by rw [← Array.length_toList, ← Paired.length hp]; exact hz⟩) e3 hc k
  · cases hf
variable {a : Expr} {p pos : Pos} {fa : E} {kk : Nat}
theorem srt_ (hr : Room kk X.A) (hm : X.mg "sorted" = none) (ha : SE X a fa) (hc : X.calm = true := by rfl) (hg : Gl X "sorted" := by rfl) (hs : starEach [a] X.env = (false, eval a X.env) :: starEach [] X.env := by rfl) (hpl : (backTo pos (starEach [] X.env)).any (·.1) = false := by rfl) : SE X (.Call (.Name "sorted" p) [a] [] pos) (eUn srtF fa) :=
  se_b1 (pe_callB (cr_srtD hc hr.units) hg hm (by decide +kernel) (pa1 ha hs) (by decide) (by decide) hs hpl) srtU
theorem srd_ (hr : Room kk X.A) (hm : X.mg "sorted" = none) (ha : SE X a fa) (hc : X.calm = true := by rfl) (hg : Gl X "sorted" := by rfl) (hs : starEach [a] X.env = (false, eval a X.env) :: starEach [] X.env := by rfl) (hpl : (backTo pos (starEach [] X.env)).any (·.1) = false := by rfl) : SE X (.Call (.Name "sorted" p) [a] [] pos) (eUn srdF fa) :=
  se_b1 (pe_callB (cr_srtD hc hr.units) hg hm (by decide +kernel) (pa1 ha hs) (by decide) (by decide) hs hpl) srdU
end
end Q
namespace Q
open PySem L2
/-! ### reckoning with the plain functions -/
theorem okM_self (m : Mem) : okM m m := fun i b _ h => .inl h
theorem okM_app (m e : Mem) : okM m (m ++ e) := fun i b hi h => .inl (by rw [List.getElem?_append_left hi] at h; exact h)
theorem shut_v {m e : Mem} {d : D} (h : d.lo m.length) : shut m (.v d) (m ++ e) = (.v d, m) := by
  unfold shut
  rw [if_pos (okM_app m e)]
  simp [h]
theorem shut_s {m : Mem} {d : D} (h : d.lo m.length) : shut m (.v d) m = (.v d, m) := by
  have := shut_v (m := m) (e := []) h
  rw [List.append_nil] at this
  exact this
theorem shut_o {m e : Mem} {b : Ob} (h : b.lo m.length) : shut m (.o b) (m ++ e) = (.o b, m) := by
  unfold shut
  rw [if_pos (okM_app m e)]
  simp [h]
theorem shut_os {m : Mem} {b : Ob} (h : b.lo m.length) : shut m (.o b) m = (.o b, m) := by
  have := shut_o (m := m) (e := []) h
  rw [List.append_nil] at this
  exact this
@[simp] theorem lo_non (n : Nat) : D.lo n .non = True := by rw [D.lo] <;> simp
@[simp] theorem lo_bl (n : Nat) (b : Bool) : D.lo n (.bl b) = True := by rw [D.lo] <;> simp
@[simp] theorem lo_int (n : Nat) (b : Int) : D.lo n (.int b) = True := by rw [D.lo] <;> simp
@[simp] theorem lo_str (n : Nat) (b : Str) : D.lo n (.str b) = True := by rw [D.lo] <;> simp
@[simp] theorem lo_tup (n : Nat) (b : List D) : D.lo n (.tup b) = loL n b := by rw [D.lo]
@[simp] theorem lo_par (n : Nat) (b : List D) : D.lo n (.par b) = loL n b := by rw [D.lo]
@[simp] theorem lo_fl (n : Nat) (b : List D) : D.lo n (.fl b) = loL n b := by rw [D.lo]
@[simp] theorem lo_ref (n k : Nat) : D.lo n (.ref k) = (k < n) := by rw [D.lo]
@[simp] theorem loL_nil (n : Nat) : loL n [] = True := by rw [loL]
@[simp] theorem loL_cons (n : Nat) (d : D) (ds : List D) : loL n (d :: ds) = (d.lo n ∧ loL n ds) := by rw [loL]
theorem loL_iff (n : Nat) : ∀ ds : List D, loL n ds ↔ ∀ d ∈ ds, d.lo n
  | [] => by simp
  | d :: ds => by simp [loL_iff n ds]
/-! typed data -/
abbrev nats (w : List Nat) : List D := w.map fun (r : Nat) => D.int (r : Int)
def tN (w : List Nat) : D := .tup (nats w)
def tM (m : List (List Nat)) : D := .tup (m.map tN)
theorem loL_nats (n : Nat) (w : List Nat) : loL n (nats w) := by rw [loL_iff]; intro d hd; simp at hd; obtain ⟨a, _, rfl⟩ := hd; simp
@[simp] theorem lo_tN (n : Nat) (w : List Nat) : D.lo n (tN w) = True := by unfold tN; simp [loL_nats]
@[simp] theorem lo_tM (n : Nat) (w : List (List Nat)) : D.lo n (tM w) = True := by unfold tM; simp [loL_iff]
theorem atI_nats (w : List Nat) (i : Nat) (h : i < w.length) : atI (nats w) (i : Int) = some (.int (w[i] : Nat)) := by
  unfold atI ixN
  simp [h]
theorem atI_get {α : Type} (w : List α) (i : Nat) (h : i < w.length) : atI w (i : Int) = some w[i] := by
  unfold atI ixN
  simp [h]
/-- the machine: rooms, letters -/
structure Mach (m : List (List Nat)) (l : Nat) : Prop where
  len : ∀ row ∈ m, row.length = l
  lt : ∀ row ∈ m, ∀ r ∈ row, r < m.length
def stp (m : List (List Nat)) (r a : Nat) : Nat := (m.getD r []).getD a 0
def ledN (m : List (List Nat)) (r : Nat) (w : List Nat) : Nat := w.foldl (stp m) r
theorem Mach.row {m : List (List Nat)} {l : Nat} (h : Mach m l) {r : Nat} (hr : r < m.length) : m[r].length = l := h.len _ (List.getElem_mem hr)
theorem stp_eq {m : List (List Nat)} {l : Nat} (h : Mach m l) {r a : Nat} (hr : r < m.length) (ha : a < l) : stp m r a = (m[r])[a]'(by rw [h.row hr]; exact ha) := by
  unfold stp
  have h2 : a < m[r].length := by rw [h.row hr]; exact ha
  simp [List.getD, List.getElem?_eq_getElem hr, List.getElem?_eq_getElem h2]
theorem stp_lt {m : List (List Nat)} {l : Nat} (h : Mach m l) {r a : Nat} (hr : r < m.length) (ha : a < l) : stp m r a < m.length := by
  rw [stp_eq h hr ha]
  exact h.lt _ (List.getElem_mem hr) _ (List.getElem_mem _)
theorem ledN_lt {m : List (List Nat)} {l : Nat} (h : Mach m l) : ∀ {w : List Nat} {r : Nat}, r < m.length → (∀ a ∈ w, a < l) → ledN m r w < m.length
  | [], r, hr, _ => hr
  | a :: w, r, hr, hw => ledN_lt h (w := w) (stp_lt h hr (hw a (by simp))) fun b hb => hw b (by simp [hb])
@[simp] theorem ledN_nil (m : List (List Nat)) (r : Nat) : ledN m r [] = r := rfl
@[simp] theorem ledN_one (m : List (List Nat)) (r a : Nat) : ledN m r [a] = stp m r a := rfl
theorem ledN_app (m : List (List Nat)) (r : Nat) (u v : List Nat) : ledN m r (u ++ v) = ledN m (ledN m r u) v := by unfold ledN; rw [List.foldl_append]
/-- machine[room][letter] -/
theorem ix_row {m : List (List Nat)} {r : Nat} (hr : r < m.length) (M : Mem) : ixF (.v (tM m)) (.v (.int r)) M = some (.v (tN m[r]), M) := by
  unfold ixF tM
  simp only [seqOf, Option.bind_some]
  rw [atI_get _ _ (by simpa using hr)]
  simp
theorem ix_nat {w : List Nat} {r : Nat} (hr : r < w.length) (M : Mem) : ixF (.v (tN w)) (.v (.int r)) M = some (.v (.int (w[r] : Nat)), M) := by
  unfold ixF tN
  simp only [seqOf, Option.bind_some]
  rw [atI_nats _ _ hr]
  simp
theorem ix_stp {m : List (List Nat)} {l : Nat} (h : Mach m l) {r a : Nat} (hr : r < m.length) (ha : a < l) (M : Mem) : ixF (.v (tN m[r])) (.v (.int a)) M = some (.v (.int (stp m r a : Nat)), M) := by
  rw [ix_nat (by rw [h.row hr]; exact ha), stp_eq h hr ha]
theorem forL_nil {g : G} {body : S} {ρ : Env} {m : Mem} : forL g body [] [] ρ m = some (.nx ρ m) := by
  unfold forL
  rw [if_pos]
  intro p hp; simp at hp
theorem forL_cons {g : G} {body : S} {x : D} {xs : List D} {ρ : Env} {m : Mem} : forL g body [] (x :: xs) ρ m = (g x ρ m).bind fun y => (body y.1 y.2).bind fun r => match r with
      | .nx ρ' m' => forL g body [] xs ρ' m'
      | .ct ρ' m' => forL g body [] xs ρ' m'
      | .bk ρ' m' => some (.nx ρ' m')
      | .rt r m' => some (.rt r m') := by
  have hc : chk [] m := fun p hp => by simp at hp
  (rw [forL, if_pos hc]) <;> rfl
theorem cmpL_nil {t : Tg} {c : B} {f : E} {ρ : Env} {m : Mem} : cmpL t c f [] ρ [] m = some ([], m) := by
  unfold cmpL
  rw [if_pos]
  intro p hp; simp at hp
theorem cmpL_cons {t : Tg} {c : B} {f : E} {ρ : Env} {m : Mem} {x : D} {xs : List D} : cmpL t c f [] ρ (x :: xs) m = (t.put x ρ).bind fun ρ' => (c ρ' m).bind fun b => match b.1 with
      | true => (f ρ' b.2).bind fun y => (cmpL t c f [] ρ xs (val y.1 y.2).2).bind fun r => some ((val y.1 y.2).1 :: r.1, r.2)
      | false => cmpL t c f [] ρ xs b.2 := by
  have hc : chk [] m := fun p hp => by simp at hp
  (rw [cmpL, if_pos hc]) <;> rfl
end Q
namespace Q
open PySem L2
/-! ### draws: a state that lies at some places of the memory -/
def Fr (ab : List Nat) (M M' : Mem) : Prop := M'.length = M.length ∧ ∀ i : Nat, i ∉ ab → M'[i]? = M[i]?
theorem Fr.refl (ab : List Nat) (M : Mem) : Fr ab M M := ⟨rfl, fun _ _ => rfl⟩
theorem Fr.trans {ab : List Nat} {M M1 M2 : Mem} (h : Fr ab M M1) (k : Fr ab M1 M2) : Fr ab M M2 := ⟨k.1.trans h.1, fun i hi => (k.2 i hi).trans (h.2 i hi)⟩
/-- S: what holds of the state; st: its data; nx: the def that draws -/
structure Gen (st : D) (ab : List Nat) (S : Mem → Prop) (nx : Fn) : Prop where
  next : ∀ (M : Mem) (n : Nat), S M → 0 < n → n ≤ 100000 → ∃ (r : Nat) (M' : Mem), nx [st, .int (n : Int)] M = some (.v (.int (r : Int)), M') ∧ r < n ∧ S M' ∧ Fr ab M M'
  keep : ∀ M M', S M → (∀ i ∈ ab, M'[i]? = M[i]?) → S M'
  lo : ∀ M, S M → ∀ i ∈ ab, ∀ o, M[i]? = some o → o.lo M.length
  ins : ∀ M, S M → ∀ i ∈ ab, i < M.length
  sto : ∀ M, S M → st.lo M.length
section
variable {st : D} {ab : List Nat} {S : Mem → Prop} {nx : Fn}
theorem Gen.app (g : Gen st ab S nx) {M : Mem} (h : S M) (e : Mem) : S (M ++ e) := g.keep M _ h (fun i hi => by rw [List.getElem?_append_left (g.ins M h i hi)])
theorem ob_lo_mono {n k : Nat} (hk : n ≤ k) : ∀ {b : Ob}, b.lo n → b.lo k := by
  have hd : ∀ d : D, d.lo n → d.lo k := by
    intro d
    refine D.rec (motive_1 := fun d => d.lo n → d.lo k) (motive_2 := fun ds => loL n ds → loL k ds) (by simp) (by simp) (by simp) (by simp) (fun xs ih => by simpa using ih) (fun xs ih => by simpa using ih) (fun xs ih => by simpa using ih) (fun i => by simp; omega) (fun k xs ih => by rw [D.lo, D.lo]; exact ih) (by simp) (fun d ds h1 h2 => by simp; exact fun a b => ⟨h1 a, h2 b⟩) d
  intro b h
  cases b with
  | lst xs =>
    have h' : loL n xs := h
    show loL k xs
    rw [loL_iff] at h' ⊢
    exact fun d hm => hd d (h' d hm)
  | dct kvs =>
    have h' : loK n kvs := h
    show loK k kvs
    induction kvs with
    | nil => simp [loK]
    | cons p r ih => rw [loK] at h' ⊢; exact ⟨hd _ h'.1, hd _ h'.2.1, ih h'.2.2 h'.2.2⟩
  | dcr kvs =>
    have h' : loK n kvs := h
    show loK k kvs
    induction kvs with
    | nil => simp [loK]
    | cons p r ih => rw [loK] at h' ⊢; exact ⟨hd _ h'.1, hd _ h'.2.1, ih h'.2.2 h'.2.2⟩
  | tab q => trivial
theorem Gen.okM (g : Gen st ab S nx) {M M' : Mem} (f : Fr ab M M') (s : S M') (e : Mem) : Q.okM M (M' ++ e) := fun i b hi h => by
  rw [List.getElem?_append_left (by rw [f.1]; exact hi)] at h
  by_cases hm : i ∈ ab
  · right
    have := g.lo M' s i hm b h
    rw [f.1] at this
    exact this
  · left; rw [← f.2 i hm]; exact h
/-- a def's end, behind draws -/
theorem Gen.shut (g : Gen st ab S nx) {M M' e : Mem} {d : D} (f : Fr ab M M') (s : S M') (hd : d.lo M.length) : shut M (.v d) (M' ++ e) = (.v d, M') := by
  unfold Q.shut
  rw [if_pos (g.okM f s e)]
  simp only [if_pos hd]
  rw [← f.1]; simp
theorem Gen.shutS (g : Gen st ab S nx) {M M' : Mem} {d : D} (f : Fr ab M M') (s : S M') (hd : d.lo M.length) : Q.shut M (.v d) M' = (.v d, M') := by
  have := g.shut (e := []) f s hd
  rw [List.append_nil] at this
  exact this
/-- a def's end that hands a new list back -/
theorem Gen.shutO (g : Gen st ab S nx) {M M' e : Mem} {b : Ob} (f : Fr ab M M') (s : S M') (hd : b.lo M.length) : Q.shut M (.o b) (M' ++ e) = (.o b, M') := by
  unfold Q.shut
  rw [if_pos (g.okM f s e)]
  simp only [if_pos hd]
  rw [← f.1]; simp
theorem Gen.shutL (g : Gen st ab S nx) {M M' e : Mem} {b : Ob} {k : Nat} (f : Fr ab M M') (s : S M') (hk : M.length ≤ k) (he : (M' ++ e)[k]? = some b) (hd : b.lo M.length) : Q.shut M (.v (.ref k)) (M' ++ e) = (.o b, M') := by
  unfold Q.shut
  rw [if_pos (g.okM f s e)]
  have : ¬ D.lo M.length (.ref k) := by simp; exact hk
  simp only [if_neg this, he, if_pos hd]
  simp [← f.1]
end
/-- what a def holds of its own behind the memory stays there -/
theorem Gen.tail {st : D} {ab : List Nat} {S : Mem → Prop} {nx : Fn} (g : Gen st ab S nx) {M M' e : Mem} (s : S M) (s' : S M') (f : Fr ab (M ++ e) M') : ∃ M1, M' = M1 ++ e ∧ S M1 ∧ Fr ab M M1 := by
  have hl : M'.length = M.length + e.length := by rw [f.1]; simp
  refine ⟨M'.take M.length, ?_, g.keep M' _ s' fun i hi => ?_, ?_, fun i hi => ?_⟩
  · apply List.ext_getElem?
    intro j
    by_cases hj : j < M.length
    · rw [List.getElem?_append_left (by simp; omega), List.getElem?_take_of_lt hj]
    · rw [List.getElem?_append_right (by simp; omega), f.2 j (fun hm => hj (g.ins M s j hm)), List.getElem?_append_right (by omega)]
      simp; congr 1; omega
  · rw [List.getElem?_take_of_lt (g.ins M s i hi)]
  · simp; omega
  · by_cases hj : i < M.length
    · rw [List.getElem?_take_of_lt hj, f.2 i hi, List.getElem?_append_left hj]
    · rw [List.getElem?_eq_none (by simp; omega), List.getElem?_eq_none (by omega)]
theorem get_end {M : Mem} {o : Ob} {k : Nat} (h : k = M.length) : (M ++ [o])[k]? = some o := by subst h; simp
theorem set_end {M : Mem} {o o' : Ob} {k : Nat} (h : k = M.length) : (M ++ [o]).set k o' = M ++ [o'] := by subst h; simp
/-! ### loops and comprehensions with a word of their own -/
theorem forL_inv {g : G} {body : S} {xs : List D} (J : Nat → Env → Mem → Prop) (step : ∀ (i : Nat) (x : D) (ρ : Env) (M : Mem), xs[i]? = some x → J i ρ M → ∃ ρ1 M1 ρ2 M2, g x ρ M = some (ρ1, M1) ∧ body ρ1 M1 = some (.nx ρ2 M2) ∧ J (i + 1) ρ2 M2) :
    ∀ {ρ : Env} {M : Mem}, J 0 ρ M → ∃ ρ' M', forL g body [] xs ρ M = some (.nx ρ' M') ∧ J xs.length ρ' M' := by
  have h : ∀ (n : Nat) (k : Nat) (ρ : Env) (M : Mem), n + k = xs.length → J k ρ M → ∃ ρ' M', forL g body [] (xs.drop k) ρ M = some (.nx ρ' M') ∧ J xs.length ρ' M' := by
    intro n
    induction n with
    | zero => intro k ρ M e j; rw [List.drop_eq_nil_of_le (by omega), forL_nil]; exact ⟨ρ, M, rfl, by rw [show xs.length = k by omega]; exact j⟩
    | succ n ih =>
      intro k ρ M e j
      have hk : k < xs.length := by omega
      rw [List.drop_eq_getElem_cons hk, forL_cons]
      obtain ⟨ρ1, M1, ρ2, M2, e1, e2, j2⟩ := step k _ ρ M (List.getElem?_eq_getElem hk) j
      rw [e1]
      simp only [Option.bind_some, e2]
      exact ih (k + 1) ρ2 M2 (by omega) j2
  intro ρ M j
  have := h xs.length 0 ρ M (by omega) j
  simpa using this
theorem forR_inv {g : G} {body : S} {n : Nat} (J : Nat → Env → Mem → Prop) {ρ : Env} {M : Mem} (h0 : J 0 ρ M) (step : ∀ (i : Nat) (ρ : Env) (M : Mem), i < n → J i ρ M → ∃ ρ1 M1 ρ2 M2, g (.int (i : Int)) ρ M = some (ρ1, M1) ∧ body ρ1 M1 = some (.nx ρ2 M2) ∧ J (i + 1) ρ2 M2) :
    ∃ ρ' M', forL g body [] (upto 0 n) ρ M = some (.nx ρ' M') ∧ J n ρ' M' := by
  have := forL_inv (g := g) (body := body) (xs := upto 0 n) J (fun i x ρ M hx j => by
    obtain ⟨hi, rfl⟩ := upto_get hx
    have := step i ρ M hi j
    simpa using this) h0
  rw [upto_len] at this
  exact this
theorem cmpL_inv {t : Tg} {c : B} {f : E} {ρ : Env} {xs : List D} (J : Mem → Prop) (Rl : D → D → Prop) (step : ∀ (x : D) (M : Mem), x ∈ xs → J M → ∃ ρ' M1 d M2, t.put x ρ = some ρ' ∧ c ρ' M = some (true, M1) ∧ f ρ' M1 = some (.v d, M2) ∧ J M2 ∧ Rl x d) :
    ∀ {M : Mem}, J M → ∃ ds M', cmpL t c f [] ρ xs M = some (ds, M') ∧ J M' ∧ Paired Rl xs ds := by
  induction xs with
  | nil => intro M j; exact ⟨[], M, cmpL_nil, j, .nil⟩
  | cons x xs ih =>
    intro M j
    obtain ⟨ρ', M1, d, M2, e1, e2, e3, j2, r⟩ := step x M (by simp) j
    obtain ⟨ds, M3, e4, j3, rs⟩ := ih (fun y M hy => step y M (by simp [hy])) j2
    refine ⟨d :: ds, M3, ?_, j3, .cons r rs⟩
    rw [cmpL_cons, e1]
    simp [e2, e3, e4]
/-- elements that change nothing -/
theorem cmpL_map {t : Tg} {f : E} {ρ : Env} {xs : List D} {M : Mem} (h : D → D) (step : ∀ x ∈ xs, ∃ ρ', t.put x ρ = some ρ' ∧ f ρ' M = some (.v (h x), M)) : cmpL t bYes f [] ρ xs M = some (xs.map h, M) := by
  induction xs with
  | nil => exact cmpL_nil
  | cons x xs ih =>
    obtain ⟨ρ', e1, e2⟩ := step x (by simp)
    rw [cmpL_cons, e1]
    simp [bYes, e2, ih fun y hy => step y (by simp [hy])]
end Q
namespace Q
open PySem L2
/-! ### slices, lengths, items of typed data -/
theorem sIx_of {n d : Nat} {k : Int} (h : 0 ≤ k) : HT.sIx n d (some k) = min k.toNat n := by
  obtain ⟨j, rfl⟩ := Int.eq_ofNat_of_zero_le h
  rw [HT.sIx_nat]; simp
theorem cut_to {xs : List D} {k : Int} (h : 0 ≤ k) : cutD xs none (some k) = xs.take k.toNat := by
  unfold cutD
  rw [sIx_of h, HT.sIx_none, List.drop_zero, Nat.sub_zero]
  by_cases q : k.toNat ≤ xs.length
  · rw [Nat.min_eq_left q]
  · rw [Nat.min_eq_right (by omega), List.take_length, List.take_of_length_le (by omega)]
theorem cut_from {xs : List D} {k : Int} (h : 0 ≤ k) : cutD xs (some k) none = xs.drop k.toNat := by
  unfold cutD
  rw [sIx_of h, HT.sIx_none]
  by_cases q : k.toNat ≤ xs.length
  · rw [Nat.min_eq_left q, List.take_of_length_le (by simp)]
  · rw [Nat.min_eq_right (by omega), List.drop_length, List.drop_of_length_le (by omega)]; simp
theorem cut_mid {xs : List D} {i j : Int} (h : 0 ≤ i) (h2 : 0 ≤ j) : cutD xs (some i) (some j) = (xs.drop i.toNat).take (j.toNat - i.toNat) := by
  unfold cutD
  rw [sIx_of h, sIx_of h2]
  by_cases q : i.toNat ≤ xs.length
  · rw [Nat.min_eq_left q]
    by_cases q2 : j.toNat ≤ xs.length
    · rw [Nat.min_eq_left q2]
    · rw [Nat.min_eq_right (by omega), List.take_of_length_le (by simp), List.take_of_length_le (by simp; omega)]
  · rw [show min i.toNat xs.length = xs.length by omega, List.drop_length, List.drop_of_length_le (by omega)]; simp
theorem cut_back {xs : List D} {k : Nat} (h : 0 < k) : cutD xs none (some (-(k : Int))) = xs.take (xs.length - k) := by
  unfold cutD
  rw [HT.sIx_none, List.drop_zero, Nat.sub_zero]
  show xs.take (if -(k : Int) < 0 then (-(k : Int) + (xs.length : Int)).toNat else _) = _
  rw [if_pos (by omega)]
  congr 1
  omega
theorem len_fl (xs : List D) (M : Mem) : lenF (.v (.fl xs)) M = some (.v (.int xs.length), M) := by simp [lenF, seqOf]
theorem len_tup (xs : List D) (M : Mem) : lenF (.v (.tup xs)) M = some (.v (.int xs.length), M) := by simp [lenF, seqOf]
theorem len_ol (xs : List D) (M : Mem) : lenF (.o (.lst xs)) M = some (.v (.int xs.length), M) := by simp [lenF, seqOf]
theorem len_tN (w : List Nat) (M : Mem) : lenF (.v (tN w)) M = some (.v (.int w.length), M) := by simp [tN, len_tup]
theorem len_tM (w : List (List Nat)) (M : Mem) : lenF (.v (tM w)) M = some (.v (.int w.length), M) := by simp [tM, len_tup]
theorem len_ref {n : Nat} {xs : List D} {M : Mem} (h : M[n]? = some (.lst xs)) : lenF (.v (.ref n)) M = some (.v (.int xs.length), M) := by simp [lenF, seqOf, h]
theorem tup_ol (xs : List D) (M : Mem) : tupF (.o (.lst xs)) M = some (.v (.tup xs), M) := by simp [tupF, seqOf]
theorem tup_ref {n : Nat} {xs : List D} {M : Mem} (h : M[n]? = some (.lst xs)) : tupF (.v (.ref n)) M = some (.v (.tup xs), M) := by simp [tupF, seqOf, h]
theorem list_tN (w : List Nat) (M : Mem) : listF (.v (tN w)) M = some (.o (.lst (nats w)), M) := by simp [listF, tN, seqOf]
theorem sl_fl (xs : List D) (lo hi : Option Int) (M : Mem) : slF (.v (.fl xs)) lo hi M = some (.o (.lst (cutD xs lo hi)), M) := by simp [slF, seqOf]
theorem sl_tup (xs : List D) (lo hi : Option Int) (M : Mem) : slF (.v (.tup xs)) lo hi M = some (.v (.tup (cutD xs lo hi)), M) := by simp [slF]
theorem sl_ol (xs : List D) (lo hi : Option Int) (M : Mem) : slF (.o (.lst xs)) lo hi M = some (.o (.lst (cutD xs lo hi)), M) := by simp [slF, seqOf]
theorem src_ol (xs : List D) (M : Mem) : srcOf (.o (.lst xs)) M = some ⟨xs, []⟩ := by simp [srcOf]
theorem src_tup (xs : List D) (M : Mem) : srcOf (.v (.tup xs)) M = some ⟨xs, []⟩ := by simp [srcOf]
theorem src_tN (w : List Nat) (M : Mem) : srcOf (.v (tN w)) M = some ⟨nats w, []⟩ := by simp [srcOf, tN]
theorem src_tM (w : List (List Nat)) (M : Mem) : srcOf (.v (tM w)) M = some ⟨w.map tN, []⟩ := by simp [srcOf, tM]
@[simp] theorem eq_int (i j : Int) (M : Mem) : eqF (.v (.int i)) (.v (.int j)) M = some (.v (.bl (decide (i = j))), M) := by simp [eqF, form, okD, D.eqb]
@[simp] theorem ne_int (i j : Int) (M : Mem) : neF (.v (.int i)) (.v (.int j)) M = some (.v (.bl (!decide (i = j))), M) := by simp [neF, form, okD, D.eqb]
@[simp] theorem isi_int (i : Int) (M : Mem) (t : Ty) : isiF t (.v (.int i)) M = some (.v (.bl (isiB t "int")), M) := by simp [isiF, tyOf]
theorem ix_ol {xs : List D} {i : Nat} {d : D} {M : Mem} (h : xs[i]? = some d) : ixF (.o (.lst xs)) (.v (.int (i : Int))) M = some (.v d, M) := by
  obtain ⟨h1, h2⟩ := List.getElem?_eq_some_iff.mp h
  simp [ixF, seqOf, atI, ixN, h1, h2]
theorem upto_nats (n : Nat) : upto 0 n = nats (List.range n) := by simp [upto]
theorem add_tN (u v : List Nat) (M : Mem) (h : fits (u.length + v.length)) : addF (.v (tN u)) (.v (tN v)) M = some (.v (tN (u ++ v)), M) := by simp [addF, tN, h]
theorem sz {n : Nat} (h : n ≤ 100000) : n ≤ sizeLine := by rw [sizeLine_eq]; omega
theorem tup_nil : D.tup [] = tN [] := rfl
theorem tup_one (a : Nat) : D.tup [.int (a : Int)] = tN [a] := rfl
@[simp] theorem rg_nat {n : Nat} (h : n ≤ 16777216) : rgOk (n : Int) := rgOk_of (by omega) (by omega)
end Q
namespace Q
open PySem L2
/-- elements that change nothing, typed -/
theorem cmpL_mp {α : Type} {t : Tg} {f : E} {ρ : Env} {M : Mem} (emb h : α → D) (xs : List α) (step : ∀ x ∈ xs, ∃ ρ', t.put (emb x) ρ = some ρ' ∧ f ρ' M = some (.v (h x), M)) : cmpL t bYes f [] ρ (xs.map emb) M = some (xs.map h, M) := by
  induction xs with
  | nil => exact cmpL_nil
  | cons x xs ih =>
    obtain ⟨ρ', e1, e2⟩ := step x (by simp)
    rw [List.map_cons, cmpL_cons, e1]
    simp [bYes, e2, ih fun y hy => step y (by simp [hy])]
/-- the same with a test -/
theorem cmpL_fl {α : Type} {t : Tg} {c : B} {f : E} {ρ : Env} {M : Mem} (emb h : α → D) (p : α → Bool) (xs : List α) (step : ∀ x ∈ xs, ∃ ρ', t.put (emb x) ρ = some ρ' ∧ c ρ' M = some (p x, M) ∧ (p x = true → f ρ' M = some (.v (h x), M))) : cmpL t c f [] ρ (xs.map emb) M = some ((xs.filter p).map h, M) := by
  induction xs with
  | nil => exact cmpL_nil
  | cons x xs ih =>
    obtain ⟨ρ', e1, e2, e3⟩ := step x (by simp)
    have ih := ih fun y hy => step y (by simp [hy])
    rw [List.map_cons, cmpL_cons, e1]
    cases hp : p x with
    | true => simp [e2, hp, e3 hp, ih]
    | false => simp [e2, hp, ih]
/-- a loop that changes nothing and goes on -/
theorem forL_skip {α : Type} {g : G} {body : S} {M : Mem} (emb : α → D) (J : Env → Prop) (xs : List α) (step : ∀ x ∈ xs, ∀ ρ, J ρ → ∃ ρ1 ρ2, g (emb x) ρ M = some (ρ1, M) ∧ body ρ1 M = some (.nx ρ2 M) ∧ J ρ2) :
    ∀ {ρ : Env}, J ρ → ∃ ρ', forL g body [] (xs.map emb) ρ M = some (.nx ρ' M) ∧ J ρ' := by
  induction xs with
  | nil => intro ρ j; exact ⟨ρ, forL_nil, j⟩
  | cons x xs ih =>
    intro ρ j
    obtain ⟨ρ1, ρ2, e1, e2, j2⟩ := step x (by simp) ρ j
    obtain ⟨ρ', e3, j3⟩ := ih (fun y hy => step y (by simp [hy])) j2
    refine ⟨ρ', ?_, j3⟩
    rw [List.map_cons, forL_cons, e1]
    simp [e2, e3]
theorem Gen.draws {st : D} {ab : List Nat} {S : Mem → Prop} {nx : Fn} (g : Gen st ab S nx) {t : Tg} {f : E} {ρ : Env} {n : Nat} (hn : 0 < n) (hn2 : n ≤ 100000) {xs : List D} (hE : ∀ x ∈ xs, ∃ ρ', t.put x ρ = some ρ' ∧ ∀ M, f ρ' M = nx [st, .int (n : Int)] M) :
    ∀ {M : Mem}, S M → ∃ (w : List Nat) (M' : Mem), cmpL t bYes f [] ρ xs M = some (nats w, M') ∧ w.length = xs.length ∧ (∀ r ∈ w, r < n) ∧ S M' ∧ Fr ab M M' := by
  induction xs with
  | nil => intro M h; exact ⟨[], M, by simp [cmpL_nil], rfl, by simp, h, Fr.refl _ _⟩
  | cons x xs ih =>
    intro M h
    obtain ⟨r, M1, e, q, s1, f1⟩ := g.next M n h hn hn2
    obtain ⟨w, M2, e2, hw, hq, s2, f2⟩ := ih (fun y hy => hE y (by simp [hy])) s1
    obtain ⟨ρ', e3, e4⟩ := hE x (by simp)
    refine ⟨r :: w, M2, ?_, by simp [hw], fun x hx => ?_, s2, f1.trans f2⟩
    · rw [cmpL_cons, e3]
      simp [e4, e, e2]
    · rcases List.mem_cons.mp hx with rfl | hx
      · exact q
      · exact hq x hx
/-- a law's end -/
theorem law_shut (d : D) (M : Mem) (h : d.lo 0) : shut [] (.v d) M = (.v d, (shut [] (.v d) M).2) := by
  unfold shut
  rw [if_pos (show okM [] M from fun i b hi => by simp at hi)]
  simp [h]
@[simp] theorem tup_ref' (xs : List D) (M : Mem) : tupF (.v (.tup xs)) M = some (.v (.tup xs), M) := by simp [tupF, seqOf]
theorem tM_eq (m : List (List Nat)) : D.tup (m.map fun r => D.tup (nats r)) = tM m := rfl
theorem tN_eq (m : List Nat) : D.tup (nats m) = tN m := rfl
theorem map_range_get {α β : Type} (xs : List α) (d : α) (f : α → β) : (List.range xs.length).map (fun i => f (xs.getD i d)) = xs.map f := by
  apply List.ext_getElem
  · simp
  · intro i h1 h2
    simp at h1
    simp [List.getD, h1]
end Q
/-! sorted(set(xs)), xs a list of ints: the layer's set(t) turned to lists -/
namespace Q
open PySem PySem.Spec PyProof.Rows L2
section
variable {P : Program} {w : World} {A : Around} {E : Value → Shared → Prop} {s : Shared}
set_option maxHeartbeats 3200000 in
theorem call_set_listI {l : Addr} {items : Array Value} (ns : List Int) {Q : Value → Shared → Prop} (hh : A.handled = none) (hl : s.heap.IsList l items) (hit : IntsAre items.toList ns) (hb : ns.length + 1 < scanBound)
    (h : ∀ (h' : Heap) (tk c : Nat), SetR w h' s.heap.objs.size (fun j => decide (j ∈ ns)) c → c ≤ ns.length → (∀ b o, s.heap.get? b = some o → h'.get? b = some o) → Q (.ref s.heap.objs.size) { s with heap := h', toks := tk }) :
    wpAny (model P w) A (call (.type "set") [.ref l]) Q E s := by
  have hisz : items.size = ns.length := by
    have q := IntsAre.length hit
    rw [Array.length_toList] at q
    exact q
  obtain ⟨c, tl, hmro⟩ := F.called_set.mro
  have hmade := F.called_set.made
  have hsub := F.called_set.sub
  refine wpAny_call (codeAny_of_tree ?_)
  show wpAny _ _ (callAny (.type "set") _) _ _ _
  refine wpAny_pure ⟨Code.quiet_builtin _ (by decide +kernel), codeAny_builtin F.entry_type_call ?_⟩
  rw [Around.under_plain (weight_type_call_type "set" [.ref l] []) rfl]
  have h1 := F.called_set.notType
  have h2 := F.called_set.canCreate
  have hct := F.typeCall_set_1 (.ref l)
  repeat (any_goals (first | assumption | wp_step))

  refine codeAny_mono (code_set_led1 (.ref l) (E := E) (Q₁ := fun obj s₁ => obj = .ref s.heap.objs.size ∧ s₁ = { s with heap := s.heap.push { cls := .type "set", dict := none, data := .set #[] 0 (.fresh 0 0 (!w.params.followText "set-order")) } }) ⟨rfl, rfl⟩) fun r s₁ hr => ?_
  cases r with
  | error e => exact hr
  | ok fl =>
    cases fl with
    | ret obj =>
      obtain ⟨rfl, rfl⟩ := hr
      have hS : (s.heap.push { cls := .type "set", dict := none, data := .set #[] 0 (.fresh 0 0 (!w.params.followText "set-order")) }).get? s.heap.objs.size = some { cls := .type "set", dict := none, data := .set #[] 0 (.fresh 0 0 (!w.params.followText "set-order")) } := Heap.get?_push_size _ rfl
      have hT : Shared.TypeIs { s with heap := s.heap.push { cls := .type "set", dict := none, data := .set #[] 0 (.fresh 0 0 (!w.params.followText "set-order")) } } (.ref s.heap.objs.size) "set" := ⟨_, hS, rfl⟩
      have hli := F.called_set.init.lookup
      have hbi := F.called_set.init.bind (.ref s.heap.objs.size)
      repeat (any_goals (first | assumption | wp_step))

      refine codeAny_mono (codeAny_call_builtin (R := wants (fun r s₂ => r = .none ∧ ∃ h' tk c, s₂ = { s with heap := h', toks := tk } ∧ SetR w h' s.heap.objs.size (fun j => decide (j ∈ ns)) c ∧ c ≤ ns.length ∧
          (∀ b o, s.heap.get? b = some o → h'.get? b = some o)) E) F.called_set.init.plain F.entry_set_init (check_set_init_1 hT ?_)) fun r₂ s₂ hr₂ => ?_
      · obtain ⟨ol, hol, hcl, nl, hdl⟩ := hl
        obtain ⟨ocls, odict, odata, oslots⟩ := ol
        simp only at hcl hdl
        subst hcl; subst hdl
        have hol' : (s.heap.push { cls := .type "set", dict := none, data := .set #[] 0 (.fresh 0 0 (!w.params.followText "set-order")) }).get? l = some { cls := .type "list", dict := odict, data := .seq items nl, slots := oslots } := Heap.get?_push_of_some _ hol
        have hsls := F.sub_list_set
        have hslf := F.sub_list_frozenset
        have hne : (Value.type "list" == Value.type "dict") = false := by decide
        have hl1 : (s.heap.push { cls := .type "set", dict := none, data := .set #[] 0 (.fresh 0 0 (!w.params.followText "set-order")) }).IsList l items := ⟨_, hol', rfl, nl, rfl⟩
        unfold Builtin.«set.__init__» noKeywords Builtin.Frozenset.updateFrom
        generalize hPI : pyIter = PI
        wp_walk
        subst hPI

        refine wpAny_pyIter_list hl1 ?_
        refine wpAny_bind (wpAny_runValue ?_)
        have hlS : l < s.heap.objs.size := Heap.lt_size hol
        have hh3 : A.in1.in1.in1.handled = none := by simp [hh]
        have hz1 : (s.heap.push { cls := .type "set", dict := none, data := .set #[] 0 (.fresh 0 0 (!w.params.followText "set-order")) }).objs.size = s.heap.objs.size + 1 := Heap.size_push ..
        have hneI : l ≠ (s.heap.push { cls := .type "set", dict := none, data := .set #[] 0 (.fresh 0 0 (!w.params.followText "set-order")) }).objs.size := by
          rw [Heap.size_push]; exact Nat.ne_of_lt (Nat.lt_succ_of_lt hlS)
        have hSf : s.heap.objs.size ∉ [(s.heap.push { cls := .type "set", dict := none, data := .set #[] 0 (.fresh 0 0 (!w.params.followText "set-order")) }).objs.size, l] := by
          rw [Heap.size_push]; simp only [List.mem_cons, List.mem_singleton, List.not_mem_nil, or_false, not_or]
          exact ⟨Nat.ne_of_lt (Nat.lt_succ_self _), Nat.ne_of_gt hlS⟩
        have hval : ∀ (i : Nat) (v : Value), items[i]? = some v → ∃ k t, ns[i]? = some k ∧ v = .int k t := fun i v hv => by
          have hi : i < ns.length := by rw [← hisz]; exact (Array.getElem?_eq_some_iff.mp hv).1
          obtain ⟨t, e⟩ := PyProof.Rows.IntsAre.int_at hit i v (by rw [Array.getElem?_toList]; exact hv)
          refine ⟨ns[i], t, List.getElem?_eq_getElem hi, ?_⟩
          rw [e, List.getD_eq_getElem?_getD, List.getElem?_eq_getElem hi] <;> rfl
        refine set_update_ints ((Walks.list hh3 _ l hneI items).toS) s.heap.objs.size
          hSf ns hisz hb hval (items.size - 0) 0 _ (by omega) (Nat.zero_le _)
          ⟨⟨_, Heap.get?_push_size _ rfl, rfl, rfl⟩, (hl1.push _)⟩ ?hS0 ?hR
        case hS0 =>
          have hget : ((s.heap.push { cls := .type "set", dict := none, data := .set #[] 0 (.fresh 0 0 (!w.params.followText "set-order")) }).push { cls := .type "list_iterator", data := .fields #[.ref l, .int 0 0] }).get? s.heap.objs.size
              = some { cls := .type "set", dict := none, data := .set #[] 0 (.fresh 0 0 (!w.params.followText "set-order")) } := Heap.get?_push_of_some _ hS
          exact ⟨0, Nat.le_refl 0, setR_new_at hget⟩
        case hR =>
          intro s' c' hm hc' hS'
          obtain ⟨h', g2, d', tk', os'⟩ := s'
          have eg : g2 = s.gens := hm.gens
          have ed : d' = s.drawn := hm.drawn
          have eo : os' = s.os := hm.os
          subst eg; subst ed; subst eo
          show wpAny _ _ _ _ _ _
          refine wpAny_pure ?_
          show wpAny _ _ (ret Value.none) _ _ _
          rw [hisz] at hc'
          refine wpAny_pure ⟨rfl, h', tk', c', rfl, hS', hc', fun b o e => ?_⟩
          have hb0 : b < s.heap.objs.size := Heap.lt_size e
          have hb1 : b ≠ s.heap.objs.size := Nat.ne_of_lt hb0
          have hb2 : b ≠ (s.heap.push { cls := .type "set", dict := none, data := .set #[] 0 (.fresh 0 0 (!w.params.followText "set-order")) }).objs.size := by
            rw [Heap.size_push]; exact Nat.ne_of_lt (Nat.lt_succ_of_lt hb0)
          exact hm.heap b o (by simp only [List.mem_cons, List.mem_singleton, List.not_mem_nil, or_false, not_or]; exact ⟨hb1, hb2⟩) (Heap.get?_push_of_some _ (Heap.get?_push_of_some _ e))

      · cases r₂ with
        | error e => exact hr₂
        | ok fl₂ =>
          cases fl₂ with
          | ret r =>
            obtain ⟨rfl, h', tk, c', rfl, hS', hc', hk'⟩ := hr₂
            repeat (any_goals (first | assumption | wp_step))
            exact h _ _ _ hS' hc' hk'
          | _ => exact hr₂.elim
    | _ => exact hr.elim

end
end Q
namespace Q
open PySem L2
/-! ### rising lists of the members of a list -/
def insU (x : Int) : List Int → List Int
  | [] => [x]
  | y :: l => if x < y then x :: y :: l else if x = y then y :: l else y :: insU x l
def sortU (ns : List Int) : List Int := ns.foldr insU []
theorem insU_mem (x k : Int) : ∀ l : List Int, k ∈ insU x l ↔ k = x ∨ k ∈ l
  | [] => by simp [insU]
  | y :: l => by
    unfold insU
    split
    · simp
    · split
      · rename_i h; subst h; simp
      · simp [insU_mem x k l]; constructor <;> (intro h; rcases h with h | h | h <;> simp [h])
theorem insU_rise (x : Int) : ∀ l : List Int, l.Pairwise (· < ·) → (insU x l).Pairwise (· < ·)
  | [], _ => by simp [insU]
  | y :: l, h => by
    obtain ⟨h1, h2⟩ := List.pairwise_cons.mp h
    unfold insU
    split
    · rename_i hxy
      refine List.pairwise_cons.mpr ⟨fun z hz => ?_, h⟩
      rcases List.mem_cons.mp hz with rfl | hz
      · exact hxy
      · have := h1 z hz; omega
    · split
      · exact h
      · rename_i n1 n2
        refine List.pairwise_cons.mpr ⟨fun z hz => ?_, insU_rise x l h2⟩
        rcases (insU_mem x z l).mp hz with rfl | hz
        · omega
        · exact h1 z hz
theorem sortU_mem (k : Int) : ∀ ns : List Int, k ∈ sortU ns ↔ k ∈ ns
  | [] => by simp [sortU]
  | n :: ns => by
    have := sortU_mem k ns
    unfold sortU at this ⊢
    rw [List.foldr_cons, insU_mem, this, List.mem_cons]
theorem sortU_rise : ∀ ns : List Int, (sortU ns).Pairwise (· < ·)
  | [] => by simp [sortU]
  | n :: ns => by
    have := sortU_rise ns
    unfold sortU at this ⊢
    exact insU_rise n _ this
theorem rise_unique : ∀ {a b : List Int}, a.Pairwise (· < ·) → b.Pairwise (· < ·) → (∀ k, k ∈ a ↔ k ∈ b) → a = b
  | [], [], _, _, _ => rfl
  | [], y :: b, _, _, h => by have := (h y).mpr (by simp); simp at this
  | x :: a, [], _, _, h => by have := (h x).mp (by simp); simp at this
  | x :: a, y :: b, ha, hb, h => by
    obtain ⟨a1, a2⟩ := List.pairwise_cons.mp ha
    obtain ⟨b1, b2⟩ := List.pairwise_cons.mp hb
    have e : x = y := by
      have h1 := (h x).mp (by simp)
      have h2 := (h y).mpr (by simp)
      rcases List.mem_cons.mp h1 with e | e
      · exact e
      · rcases List.mem_cons.mp h2 with e' | e'
        · exact e'.symm
        · have := b1 x e; have := a1 y e'; omega
    subst e
    rw [rise_unique a2 b2 fun k => ?_]
    have hk := h k
    simp only [List.mem_cons] at hk
    constructor
    · intro hm
      rcases hk.mp (.inr hm) with e | e
      · subst e; have := a1 k hm; omega
      · exact e
    · intro hm
      rcases hk.mpr (.inr hm) with e | e
      · subst e; have := b1 k hm; omega
      · exact e
/-- a list of ints -/
def intsOf : List D → Option (List Int)
  | [] => some []
  | .int b :: r => (intsOf r).map (b :: ·)
  | _ => none
theorem intsOf_eq : ∀ {xs : List D} {bs : List Int}, intsOf xs = some bs → xs = bs.map D.int
  | [], bs, h => by cases h; rfl
  | d :: r, bs, h => by
    cases d with
    | int b =>
      rw [intsOf] at h
      obtain ⟨cs, h1, h2⟩ := Option.map_eq_some_iff.mp h
      rw [← h2, intsOf_eq h1]; rfl
    | _ => simp [intsOf] at h
theorem intsOf_map (bs : List Int) : intsOf (bs.map D.int) = some bs := by
  induction bs with
  | nil => rfl
  | cons b r ih => simp [intsOf, ih]
section
variable {X : Cx}
def rSetI (K : PySem.W.Frag) (w : World) : List V → Hp → VK → Prop := fun xs H Q => ∃ (l : Addr) (ns : List Int), xs = [.ref l] ∧ (SqL K H l (ns.map V.int) ∨ SqT K H l (ns.map V.int)) ∧ ns.length ≤ 1000 ∧ ∀ p c, H p = none → c ≤ ns.length → Q (.ref p) (upd H p (SetO w p (fun j => decide (j ∈ ns)) c))
theorem cr_setI (hc : X.calm = true) : CallR X (.type "set") (rSetI X.K X.w) := by
  intro pins s σ H xs us Q I r h
  obtain ⟨l, ns, rfl, hq, hl, q⟩ := h
  rw [Vals.ref1 r]
  rcases hq with hq | hq
  · obtain ⟨its, rv, pl, hz⟩ := I.list hq
    refine call_set_listI ns (I.ok.hd hc) pl.isList (by simpa using RZ.intsAre_vals rv) (by unfold scanBound; omega) fun h' tk c hS hcl hk => ?_
    exact ⟨.ref _, upd H s.heap.objs.size (SetO X.w s.heap.objs.size (fun j => decide (j ∈ ns)) c), I.laid (t' := tk) hk (Nat.le_refl _) (setO_new hS), rfl, q _ c (I.hok.fresh (Nat.le_refl _)) hcl⟩
  · obtain ⟨its, rv, pl, hz⟩ := I.tuple hq
    refine call_set_tupI ns (I.ok.hd hc) (show s.heap.IsTuple l its.toArray from pl) (by simpa using RZ.intsAre_vals rv) (by unfold scanBound; omega) fun h' tk c hS hcl hk => ?_
    exact ⟨.ref _, upd H s.heap.objs.size (SetO X.w s.heap.objs.size (fun j => decide (j ∈ ns)) c), I.laid (t' := tk) hk (Nat.le_refl _) (setO_new hS), rfl, q _ c (I.hok.fresh (Nat.le_refl _)) hcl⟩
/-- sorted(set(xs)) -/
def sosF (x : Out) (m : Mem) : Option (Out × Mem) := (seqOf x m).bind fun xs => (intsOf xs).bind fun ns => if ns.length < 64 then some (.o (.lst ((sortU ns).map .int)), m) else none
theorem se_sos {e : Expr} {fa : E} (h0 : PE X e (tCB (rSortedSet X.w) (tCons (tCB (rSetI X.K X.w) (tCons (tE X.K fa) tNil)) tNil))) : SE X e (eUn sosF fa) := pe_imp h0 fun σ H Q ⟨ι, ρ, m, z, m', rs, rm, hf, k⟩ => by
  obtain ⟨x, h1, hf⟩ := bind_some hf
  obtain ⟨xs, h2, hf⟩ := bind_some hf
  obtain ⟨ns, h3, hf⟩ := bind_some hf
  split at hf
  · rename_i h64; cases hf
    refine ⟨ι, ρ, m, x.1, x.2, rs, rm, h1, fun v ι1 H1 l1 rm1 ro1 bd1 => ?_⟩
    obtain ⟨a, vs, rfl, hs, r⟩ : ∃ a vs, v = .ref a ∧ (SqL X.K H1 a vs ∨ SqT X.K H1 a vs) ∧ RVs X.K ι1 H1 xs vs := by
      rcases seq_at2 rm1 ro1 h2 with ⟨a, vs, e, hs, r⟩ | ⟨a, vs, e, hs, r⟩
      · exact ⟨a, vs, e, .inl hs, r⟩
      · exact ⟨a, vs, e, .inr hs.sq, r⟩
    rw [intsOf_eq h3] at r
    rw [r.of_ints] at hs
    refine ⟨_, ns, rfl, hs, by omega, fun p c hp hcl => ?_⟩
    refine ⟨p, _, c, rfl, upd_same, by omega, fun out q hr hm hn hq bd => ?_⟩
    have e : out = sortU ns := rise_unique hr (sortU_rise ns) fun k => by rw [hm k, sortU_mem]; simp
    subst e
    have l2 : Le ι1 H1 ι1 (upd H1 p (SetO X.w p (fun j => decide (j ∈ ns)) c)) := Le.newAt hp
    have rm2 := rm1.newAt (o := SetO X.w p (fun j => decide (j ∈ ns)) c) hp
    exact k _ ι1 _ (l1.tr rm1 (l2.tr rm2 (Le.newAt hq))) (rm2.newAt hq) ((new_lst rm2 hq (RVs.ints (sortU ns))).from (l1.tr rm1 l2) rm2) bd
  · cases hf
variable {a : Expr} {p p2 pos q : Pos} {fa : E}
theorem sos_ (hs1 : X.mg "sorted" = none) (hs2 : X.mg "set" = none) (ha : SE X a fa) (hc : X.calm = true := by rfl) (hg1 : Gl X "sorted" := by rfl) (hg2 : Gl X "set" := by rfl) (na : starEach [a] X.env = (false, eval a X.env) :: starEach [] X.env := by rfl)
    (ne : starEach [.Call (.Name "set" p) [a] [] pos] X.env = (false, eval (.Call (.Name "set" p) [a] [] pos) X.env) :: starEach [] X.env := by rfl) (hpl : (backTo pos (starEach [] X.env)).any (·.1) = false := by rfl) (hpl2 : (backTo q (starEach [] X.env)).any (·.1) = false := by rfl) :
    SE X (.Call (.Name "sorted" p2) [.Call (.Name "set" p) [a] [] pos] [] q) (eUn sosF fa) :=
  se_sos (pe_callB (cr_sortedSet hc) hg1 hs1 (by decide +kernel) (pa1 (pe_callTy (cr_setI hc) hg2 hs2 (by decide +kernel) (pa1 ha na) (by decide) (by decide) na hpl) ne) (by decide) (by decide) ne hpl2)
end
end Q
/-! len(set(xs)), xs a list of ints -/
namespace Q
open PySem PySem.Spec PyProof.Rows L2
def dcnt (ns : List Int) : Nat := (PyProof.Rows.firstMet (fun i => ns.getD i 0) ns.length).length
def tLenSetR (K : PySem.W.Frag) (ta : TE) : TE := fun σ H Q => ta σ H fun x H1 => ∃ (l : Addr) (ns : List Int), x = .ref l ∧ SqL K H1 l (ns.map V.int) ∧ ns.length ≤ 1000 ∧ Q (.int (dcnt ns : Nat)) H1
theorem pe_lenSetR {X : Cx} {a : Expr} {ta : TE} {p p2 q pos : Pos} (hg : Gl X "len") (hm : X.mg "len" = none) (hg2 : Gl X "set") (hm2 : X.mg "set" = none) (ha : PE X a ta) (hc : X.calm = true)
    (na : starEach [a] X.env = (false, eval a X.env) :: starEach [] X.env := by rfl) : PE X (.Call (.Name "len" p) [.Call (.Name "set" p2) [a] [] q] [] pos) (tLenSetR X.K ta) := by
  refine ⟨fun pins s σ H Q I h => ?_⟩
  refine Call_ (ld_blt I hg hm boot_len ?_)
  refine PyProof.Rows.callWith_builtin1 (PyProof.Rows.args_cons ?_ rfl) rfl rfl
  refine Call_ (ld_blt I hg2 hm2 boot_set ?_)
  refine PyProof.Rows.callWith_type1 (PyProof.Rows.args_cons (thn (ha.run pins s σ H _ I h) fun v s1 ⟨x, H1, I1, r1, q1⟩ => PyProof.Rows.args_nil ?_) na) na rfl
  obtain ⟨l, ns, rfl, hq, hl, q1⟩ := q1
  cases r1
  obtain ⟨its, r, pl, hz⟩ := I1.list hq
  have hlen : its.toArray.size = ns.length := by rw [List.size_toArray, ← r.length, List.length_map]
  refine call_set_list (I1.ok.hd hc) pl.isList (by simpa using RZ.intsAre_vals r) (by rw [hlen]; unfold scanBound; omega) fun h' tk hS hk => ?_
  refine PyProof.Rows.args_nil ?_
  rw [hlen] at hS
  obtain ⟨o, es, ep, t, ho, hex, hd, _, _, _, hf, hn⟩ := hS
  have I2 : Inv X pins σ H1 { s1 with heap := h', toks := tk } := I1.kept fun b o e => hk b o (Heap.lt_size e) e
  have hle := PyProof.Rows.firstMet_length_le (fun i => ns.getD i 0) ns.length
  exact call_len_set ho hex hd hf (by rw [hn] <;> omega) ⟨.int (dcnt ns : Nat), H1, I2.tok _, ⟨_, by rw [hn]; rfl⟩, q1⟩
def lnsF (x : Out) (m : Mem) : Option (Out × Mem) := (lstOf x m).bind fun xs => (intsOf xs).bind fun ns => if ns.length ≤ 1000 then some (.v (.int (dcnt ns : Nat)), m) else none
section
variable {X : Cx} {a : Expr} {fa : E} {p p2 q pos : Pos}
theorem lns_ (hm : X.mg "len" = none) (hm2 : X.mg "set" = none) (ha : SE X a fa) (hc : X.calm = true := by rfl) (hg : Gl X "len" := by rfl) (hg2 : Gl X "set" := by rfl) (na : starEach [a] X.env = (false, eval a X.env) :: starEach [] X.env := by rfl) :
    SE X (.Call (.Name "len" p) [.Call (.Name "set" p2) [a] [] q] [] pos) (eUn lnsF fa) := pe_imp (pe_lenSetR hg hm hg2 hm2 ha hc na) fun σ H Q ⟨ι, ρ, m, z, m', rs, rm, hf, k⟩ => by
  obtain ⟨x, h1, hf⟩ := bind_some hf
  obtain ⟨xs, h2, hf⟩ := bind_some hf
  obtain ⟨ns, h3, hf⟩ := bind_some hf
  split at hf
  · rename_i h64; cases hf
    refine ⟨ι, ρ, m, x.1, x.2, rs, rm, h1, fun v ι1 H1 l1 rm1 ro1 bd1 => ?_⟩
    obtain ⟨a, vs, rfl, hs, r⟩ := lst_at rm1 ro1 h2
    rw [intsOf_eq h3] at r
    rw [r.of_ints] at hs
    exact ⟨_, ns, rfl, .inl (.inl hs), h64, k _ ι1 H1 l1 rm1 (RV.int _)⟩
  · cases hf
end
end Q
/-! len(set(xs)), xs a list or a tuple of ints -/
namespace Q
open PySem PySem.Spec PyProof.Rows L2
theorem sortU_len {ns ks : List Int} (hn : ks.Nodup) (h : ∀ k, k ∈ ks ↔ k ∈ ns) : ks.length = (sortU ns).length := by
  refine ((List.perm_ext_iff_of_nodup hn ((sortU_rise ns).imp fun h => by omega)).mpr fun k => ?_).length_eq
  rw [h, sortU_mem]
theorem sortU_le (ns : List Int) : (sortU ns).length ≤ ns.length := by
  have : ∀ (x : Int) (l : List Int), (insU x l).length ≤ l.length + 1 := fun x l => by
    induction l with
    | nil => simp [insU]
    | cons y l ih =>
      unfold insU
      split
      · simp
      · split
        · simp
        · simp; omega
  induction ns with
  | nil => simp [sortU]
  | cons n ns ih =>
    unfold sortU at ih ⊢
    rw [List.foldr_cons]
    have := this n (ns.foldr insU [])
    simp; omega
def tLenSetU (K : PySem.W.Frag) (ta : TE) : TE := fun σ H Q => ta σ H fun x H1 => ∃ (l : Addr) (ns : List Int), x = .ref l ∧ (SqL K H1 l (ns.map V.int) ∨ SqT K H1 l (ns.map V.int)) ∧ ns.length ≤ 1000 ∧ Q (.int ((sortU ns).length : Nat)) H1
theorem pe_lenSetU {X : Cx} {a : Expr} {ta : TE} {p p2 q pos : Pos} (hg : Gl X "len") (hm : X.mg "len" = none) (hg2 : Gl X "set") (hm2 : X.mg "set" = none) (ha : PE X a ta) (hc : X.calm = true)
    (na : starEach [a] X.env = (false, eval a X.env) :: starEach [] X.env := by rfl) : PE X (.Call (.Name "len" p) [.Call (.Name "set" p2) [a] [] q] [] pos) (tLenSetU X.K ta) := by
  refine ⟨fun pins s σ H Q I h => ?_⟩
  refine Call_ (ld_blt I hg hm boot_len ?_)
  refine PyProof.Rows.callWith_builtin1 (PyProof.Rows.args_cons ?_ rfl) rfl rfl
  refine Call_ (ld_blt I hg2 hm2 boot_set ?_)
  refine PyProof.Rows.callWith_type1 (PyProof.Rows.args_cons (thn (ha.run pins s σ H _ I h) fun v s1 ⟨x, H1, I1, r1, q1⟩ => PyProof.Rows.args_nil ?_) na) na rfl
  obtain ⟨l, ns, rfl, hq, hl, q1⟩ := q1
  cases r1
  have fin : ∀ (h' : Heap) (tk c : Nat), SetR X.w h' s1.heap.objs.size (fun j => decide (j ∈ ns)) c → c ≤ ns.length → (∀ b o, s1.heap.get? b = some o → h'.get? b = some o) → wpAny (model X.prog X.w) X.A (spliced (backTo pos (starEach [] X.env)))
        (fun vs s₂ => wpAny (model X.prog X.w) X.A (call (Value.builtin "len") (.ref s1.heap.objs.size :: vs)) (EP X pins σ Q) X.xe s₂) X.xe { s1 with heap := h', toks := tk } := fun h' tk c hS hcl hk => by
    refine PyProof.Rows.args_nil ?_
    obtain ⟨o, es, ep, t, ho, hex, hd, _, hnd, hS2, _, hf, hn, _⟩ := hS
    have I2 : Inv X pins σ H1 { s1 with heap := h', toks := tk } := I1.kept hk
    have hc2 : es.size = (sortU ns).length := by
      rw [← sortU_len hnd fun k => by rw [← hS2 k]; simp, List.length_map, Array.length_toList]
    exact call_len_set ho hex hd hf (by rw [hn]; omega) ⟨.int ((sortU ns).length : Nat), H1, I2.tok _, ⟨_, by rw [hc2]⟩, q1⟩
  rcases hq with hq | hq
  · obtain ⟨its, rv, pl, hz⟩ := I1.list hq
    exact call_set_listI ns (I1.ok.hd hc) pl.isList (by simpa using RZ.intsAre_vals rv) (by unfold scanBound; omega) fin
  · obtain ⟨its, rv, pl, hz⟩ := I1.tuple hq
    exact call_set_tupI ns (I1.ok.hd hc) (show s1.heap.IsTuple l its.toArray from pl) (by simpa using RZ.intsAre_vals rv) (by unfold scanBound; omega) fin
def lnuF (x : Out) (m : Mem) : Option (Out × Mem) := (seqOf x m).bind fun xs => (intsOf xs).bind fun ns => if ns.length ≤ 1000 then some (.v (.int ((sortU ns).length : Nat)), m) else none
section
variable {X : Cx} {a : Expr} {fa : E} {p p2 q pos : Pos}
theorem lnu_ (hm : X.mg "len" = none) (hm2 : X.mg "set" = none) (ha : SE X a fa) (hc : X.calm = true := by rfl) (hg : Gl X "len" := by rfl) (hg2 : Gl X "set" := by rfl) (na : starEach [a] X.env = (false, eval a X.env) :: starEach [] X.env := by rfl) :
    SE X (.Call (.Name "len" p) [.Call (.Name "set" p2) [a] [] q] [] pos) (eUn lnuF fa) := pe_imp (pe_lenSetU hg hm hg2 hm2 ha hc na) fun σ H Q ⟨ι, ρ, m, z, m', rs, rm, hf, k⟩ => by
  obtain ⟨x, h1, hf⟩ := bind_some hf
  obtain ⟨xs, h2, hf⟩ := bind_some hf
  obtain ⟨ns, h3, hf⟩ := bind_some hf
  split at hf
  · rename_i h64; cases hf
    refine ⟨ι, ρ, m, x.1, x.2, rs, rm, h1, fun v ι1 H1 l1 rm1 ro1 bd1 => ?_⟩
    obtain ⟨a, vs, rfl, hs, r⟩ : ∃ a vs, v = .ref a ∧ (SqL X.K H1 a vs ∨ SqT X.K H1 a vs) ∧ RVs X.K ι1 H1 xs vs := by
      rcases seq_at2 rm1 ro1 h2 with ⟨a, vs, e, hs, r⟩ | ⟨a, vs, e, hs, r⟩
      · exact ⟨a, vs, e, .inl hs, r⟩
      · exact ⟨a, vs, e, .inr hs.sq, r⟩
    rw [intsOf_eq h3] at r
    rw [r.of_ints] at hs
    exact ⟨_, ns, rfl, hs, h64, k _ ι1 H1 l1 rm1 (RV.int _)⟩
  · cases hf
end
end Q
/-! xs.extend(t), t a tuple -/
namespace Q
open PySem PySem.Spec PyProof.Rows L2
theorem extend_tuple (l : Addr) (items : Array Value) (n : Nat) (b : Addr) (items2 : Array Value) (n2 : Nat) (dd : Option Addr) (sl : Array (Option Value)) (hs0 : ¬(!items.isEmpty && Builtin.List.listTooLong (items.size + items2.size)) = true) (hs1 : items.size ≤ sizeLine) (hs2 : items.size + items2.size ≤ sizeLine + 1) :
    Meets (Builtin.«list.extend» ⟨[.ref l, .ref b], []⟩) (fun _ R s => s.heap.get? l = some { cls := .type "list", dict := none, data := .seq items n, slots := #[] } ∧ s.heap.get? b = some { cls := .type "tuple", dict := dd, data := .seq items2 n2, slots := sl } ∧ R (.ok (.ret Value.none)) { s with heap := s.heap.update l (Obj.mapSeq fun x => x ++ items2), toks := s.toks }) :=
  .of_wp fun prog w A R s h => by
    obtain ⟨hp, g, d, tk, os⟩ := s
    obtain ⟨hl, hb, h⟩ := h
    have f1 := AutoSeq1.idx_int
    have f2 := AutoSeq1.sub_tuple_tuple
    have f3 := AutoSeq1.sub_list_list
    have f4 := AutoSeq1.sub_tuple_list
    have f5 := AutoSeq1.sub_list_tuple
    have hz' : (items ++ items2).size ≤ sizeLine + 1 := by rw [Array.size_append]; exact hs2
    wp_walk using (wpAny_updateSeq hl rfl (hz := hs1) (_hz' := hz')), AutoSeq1.wpAny_loadPart' hl, AutoSeq1.wpAny_loadPart' hb
    exact ⟨_, rfl, h⟩
def rExtendT (K : PySem.W.Frag) : V → List V → Hp → VK → Prop := fun x vs H Q => ∃ l b xs zs, x = .ref l ∧ vs = [.ref b] ∧ H l = some (.lst xs) ∧ SqT K H b zs ∧ xs.length + zs.length ≤ sizeLine ∧ Q .non (upd H l (.lst (xs ++ zs)))
section
variable {X : Cx}
theorem mt_extendT : MtM X "list.extend" (rExtendT X.K) := by
  intro pins s σ H x vs v us Q I rx rv h
  obtain ⟨l, b, xs, zs, rfl, rfl, hH, hB, hz, q⟩ := h
  cases rx
  obtain ⟨u, rfl, ru⟩ := rv.one
  cases ru
  obtain ⟨z, its, n, r, hl, e⟩ := I.lstM hH
  obtain ⟨its2, r2, ⟨⟨cls, dd, data, sl⟩, ho, hc, n2, hd⟩, hs⟩ := I.tuple hB
  simp only at hc hd
  subst hc hd
  have hl2 : zs.length = its2.length := r2.length
  have hsz : its.toArray.size + its2.toArray.size ≤ sizeLine := by rw [List.size_toArray, List.size_toArray]; omega
  have hlong : ¬ (!its.toArray.isEmpty && Builtin.List.listTooLong (its.toArray.size + its2.toArray.size)) = true := by
    rw [notLongL hsz, Bool.and_false]
    exact Bool.false_ne_true
  refine call_meets F.slot_list_extend ⟨_, e, rfl⟩ F.entry_list_extend (F.args_list_extend_2 _ _)
    (extend_tuple l its.toArray n b its2.toArray n2 dd sl hlong (by rw [List.size_toArray]; omega) (by omega)) ⟨e, ho, ?_⟩
  refine ⟨.non, _, I.lset (its' := its ++ its2) hH e (by simp) (r.append r2) ?_, rfl, q⟩
  rw [List.length_append]
  omega
end
noncomputable def extTF (x : Out) (y : Out) (m : Mem) : Option (Out × Mem) := match x, y with
  | .v (.ref n), .v (.tup ys) => (match m[n]? with
    | some (.lst xs) => if fits (xs.length + ys.length) then some (.v .non, m.set n (.lst (xs ++ ys))) else none
    | _ => none)
  | _, _ => none
theorem extTU {K : PySem.W.Frag} : R2S K (fun v u H Q => rExtendT K v [u] H Q) extTF := by
  intro ι H H0 m x y z vx vy m' Q rm bd rx ry hf k
  unfold extTF at hf
  split at hf
  · split at hf
    · rename_i n ys _ xs hm
      split at hf
      · rename_i hl; cases hf
        cases ry with
        | tup ht rb =>
          cases rx with
          | ref e =>
            rename_i p ws _
            obtain ⟨a, e1, vs, e2, r⟩ := rm.ob _ _ hm
            rw [e] at e1; cases e1
            obtain ⟨l3, rm3⟩ := set_lst rm e e2 (r.append rb)
            exact ⟨_, _, vs, ws, rfl, rfl, e2, ht.sq, by rw [← r.length, ← rb.length]; exact hl, k _ ι _ l3 rm3 RV.non⟩
      · cases hf
    · cases hf
  · cases hf
section
variable {X : Cx} {e : Expr} {fa fb : E}
theorem extT_ (h0 : PE X e (tBM X.K "list" (rExtendT X.K) (tE X.K fa) (tCons (tE X.K fb) tNil))) : SE X e (eMt1 "list" extTF fa fb) := se_mt1 h0 extTU.n
end
end Q
namespace Q
open PySem L2
/-! ### a machine for reckoning: what is to hold behind a thing, with what follows kept as a closed word -/
abbrev PO2 := Out → Mem → Prop
def WO (o : Option (Out × Mem)) (Q : Out → Mem → Prop) : Prop := ∃ r M, o = some (r, M) ∧ Q r M
def WE (e : E) (ρ : Env) (M : Mem) (Q : Out → Mem → Prop) : Prop := ∃ r M', e ρ M = some (r, M') ∧ Q r M'
def WB (b : B) (ρ : Env) (M : Mem) (Q : Bool → Mem → Prop) : Prop := ∃ r M', b ρ M = some (r, M') ∧ Q r M'
def WA (a : A) (ρ : Env) (M : Mem) (Q : List D → Mem → Prop) : Prop := ∃ r M', a ρ M = some (r, M') ∧ Q r M'
def WN (o : O) (ρ : Env) (M : Mem) (Q : Option Int → Mem → Prop) : Prop := ∃ r M', o ρ M = some (r, M') ∧ Q r M'
def WS (s : S) (ρ : Env) (M : Mem) (Q : R → Prop) : Prop := ∃ r, s ρ M = some r ∧ Q r
def WI (i : I) (ρ : Env) (M : Mem) (Q : Src → Mem → Prop) : Prop := ∃ r M', i ρ M = some (r, M') ∧ Q r M'
def WG (g : G) (d : D) (ρ : Env) (M : Mem) (Q : Env → Mem → Prop) : Prop := ∃ r M', g d ρ M = some (r, M') ∧ Q r M'
def WC (t : Tg) (c : B) (f : E) (lv : List (Nat × Ob)) (ρ : Env) (xs : List D) (M : Mem) (Q : List D → Mem → Prop) : Prop := ∃ r M', cmpL t c f lv ρ xs M = some (r, M') ∧ Q r M'
def WL (g : G) (body : S) (lv : List (Nat × Ob)) (xs : List D) (ρ : Env) (M : Mem) (Q : R → Prop) : Prop := ∃ r, forL g body lv xs ρ M = some r ∧ Q r
def WH (c : B) (body : S) (n : Nat) (ρ : Env) (M : Mem) (Q : R → Prop) : Prop := ∃ r, whL c body n ρ M = some r ∧ Q r
/-- a wish about a source -/
def WSrc (o : Option Src) (M : Mem) (Q : Src → Mem → Prop) : Prop := ∃ s, o = some s ∧ Q s M
def WM (o : Option Mem) (Q : Mem → Prop) : Prop := ∃ s, o = some s ∧ Q s
def WEnv (o : Option Env) (Q : Env → Prop) : Prop := ∃ s, o = some s ∧ Q s
def WD (o : Option (Option D)) (Q : D → Prop) : Prop := ∃ d, o = some (some d) ∧ Q d
/-- what follows -/
def kV (M : Mem) (Q : PO2) (d : D) : Prop := Q (.v d) M
def kBin1 (f : F2) (b : E) (ρ : Env) (Q : PO2) (x : Out) (M : Mem) : Prop := WE b ρ M fun y M => WO (f x y M) Q
def kBin2 (f : F2) (x : Out) (Q : PO2) (y : Out) (M : Mem) : Prop := WO (f x y M) Q
def kUn (f : F1) (Q : PO2) (x : Out) (M : Mem) : Prop := WO (f x M) Q
def kAnd (b : E) (ρ : Env) (Q : PO2) (x : Out) (M : Mem) : Prop := match x with | .v (.bl true) => WE b ρ M Q | .v (.bl false) => Q (.v (.bl false)) M | _ => False
def kOr (b : E) (ρ : Env) (Q : PO2) (x : Out) (M : Mem) : Prop := match x with | .v (.bl false) => WE b ρ M Q | .v (.bl true) => Q (.v (.bl true)) M | _ => False
def kNot (Q : PO2) (x : Out) (M : Mem) : Prop := match x with | .v (.bl b) => Q (.v (.bl (!b))) M | _ => False
def kIf (a b : E) (ρ : Env) (Q : PO2) (c : Bool) (M : Mem) : Prop := match c with | true => WE a ρ M Q | false => WE b ρ M Q
def kOf (Q : Bool → Mem → Prop) (x : Out) (M : Mem) : Prop := match x with | .v (.bl b) => Q b M | _ => False
def kbAnd (b : B) (ρ : Env) (Q : Bool → Mem → Prop) (c : Bool) (M : Mem) : Prop := match c with | true => WB b ρ M Q | false => Q false M
def kbOr (b : B) (ρ : Env) (Q : Bool → Mem → Prop) (c : Bool) (M : Mem) : Prop := match c with | false => WB b ρ M Q | true => Q true M
def kbNot (Q : Bool → Mem → Prop) (c : Bool) (M : Mem) : Prop := Q (!c) M
def kCons1 (r : A) (ρ : Env) (Q : List D → Mem → Prop) (x : Out) (M : Mem) : Prop := WA r ρ (val x M).2 fun ds M' => Q ((val x M).1 :: ds) M'
def kCons2 (d : D) (Q : List D → Mem → Prop) (ds : List D) (M : Mem) : Prop := Q (d :: ds) M
def kTup (Q : PO2) (ds : List D) (M : Mem) : Prop := fits ds.length ∧ Q (.v (.tup ds)) M
def kLst (Q : PO2) (ds : List D) (M : Mem) : Prop := fits ds.length ∧ Q (.o (.lst ds)) M
def kCall (F : Fn) (Q : PO2) (ds : List D) (M : Mem) : Prop := WO (F ds M) Q
def kCh1 (f g : F2) (b c : E) (ρ : Env) (Q : PO2) (x : Out) (M : Mem) : Prop := WE b ρ M fun y M => WO (f x y M) fun z M => match z with | .v (.bl true) => WE c ρ M fun w M => WO (g y w M) Q | .v (.bl false) => Q (.v (.bl false)) M | _ => False
def kCh2 (f g : F2) (c : E) (ρ : Env) (Q : PO2) (x : Out) (y : Out) (M : Mem) : Prop := WO (f x y M) fun z M => match z with | .v (.bl true) => WE c ρ M fun w M => WO (g y w M) Q | .v (.bl false) => Q (.v (.bl false)) M | _ => False
def kCh3 (g : F2) (c : E) (ρ : Env) (Q : PO2) (y : Out) (z : Out) (M : Mem) : Prop := match z with | .v (.bl true) => WE c ρ M fun w M => WO (g y w M) Q | .v (.bl false) => Q (.v (.bl false)) M | _ => False
def kMt1 (T : String) (f : F2) (b : E) (ρ : Env) (Q : PO2) (x : Out) (M : Mem) : Prop := isTyB T x M = true ∧ WE b ρ M fun y M => WO (f x y M) Q
def kMt0 (T : String) (f : F1) (Q : PO2) (x : Out) (M : Mem) : Prop := isTyB T x M = true ∧ WO (f x M) Q
def kDm1 (f : F2) (b : E) (ρ : Env) (Q : PO2) (x : Out) (M : Mem) : Prop := isDct x M = true ∧ WE b ρ M fun y M => WO (f x y M) Q
def kDm2 (f : F3) (b c : E) (ρ : Env) (Q : PO2) (x : Out) (M : Mem) : Prop := isDct x M = true ∧ WE b ρ M fun y M => WE c ρ M fun z M => WO (f x y z M) Q
def kDm2b (f : F3) (c : E) (ρ : Env) (x : Out) (Q : PO2) (y : Out) (M : Mem) : Prop := WE c ρ M fun z M => WO (f x y z M) Q
def kF3 (f : F3) (x y : Out) (Q : PO2) (z : Out) (M : Mem) : Prop := WO (f x y z M) Q
def kTm1 (f : F2) (b : E) (ρ : Env) (Q : PO2) (x : Out) (M : Mem) : Prop := match x with | .v (.tup xs) => WE b ρ M fun y M => WO (f (.v (.tup xs)) y M) Q | _ => False
def kSl1 (lo hi : O) (ρ : Env) (Q : PO2) (x : Out) (M : Mem) : Prop := WN lo ρ M fun l M => WN hi ρ M fun h M => WO (slF x l h M) Q
def kSl2 (hi : O) (ρ : Env) (Q : PO2) (x : Out) (l : Option Int) (M : Mem) : Prop := WN hi ρ M fun h M => WO (slF x l h M) Q
def kSl3 (Q : PO2) (x : Out) (l h : Option Int) (M : Mem) : Prop := WO (slF x l h M) Q
def kSome (Q : Option Int → Mem → Prop) (x : Out) (M : Mem) : Prop := match x with | .v (.int i) => Q (some i) M | _ => False
def kComp (t : Tg) (c : B) (f : E) (ρ : Env) (Q : PO2) (s : Src) (M : Mem) : Prop := WC t c f s.live ρ s.items M fun ds M => Q (.o (.lst ds)) M
def kOl (Q : PO2) (ds : List D) (M : Mem) : Prop := Q (.o (.lst ds)) M
def kRg1 (mk : List D → Out) (Q : PO2) (x : Out) (M : Mem) : Prop := match x with | .v (.int j) => rgOk j ∧ Q (mk (upto 0 j.toNat)) M | _ => False
def kRg2a (mk : List D → Out) (b : E) (ρ : Env) (Q : PO2) (x : Out) (M : Mem) : Prop := WE b ρ M fun y M => match x, y with | .v (.int i), .v (.int j) => rg2Ok i j ∧ Q (mk (upto i (j - i).toNat)) M | _, _ => False
def kRg2b (mk : List D → Out) (Q : PO2) (x : Out) (y : Out) (M : Mem) : Prop := match x, y with | .v (.int i), .v (.int j) => rg2Ok i j ∧ Q (mk (upto i (j - i).toNat)) M | _, _ => False
def kiE (Q : Src → Mem → Prop) (x : Out) (M : Mem) : Prop := WSrc (srcOf x M) M Q
def kiRg1 (Q : Src → Mem → Prop) (x : Out) (M : Mem) : Prop := match x with | .v (.int j) => rgOk j ∧ Q ⟨upto 0 j.toNat, []⟩ M | _ => False
def kiRg2a (b : E) (ρ : Env) (Q : Src → Mem → Prop) (x : Out) (M : Mem) : Prop := WE b ρ M fun y M => match x, y with | .v (.int i), .v (.int j) => rg2Ok i j ∧ Q ⟨upto i (j - i).toNat, []⟩ M | _, _ => False
def kiRg2b (Q : Src → Mem → Prop) (x : Out) (y : Out) (M : Mem) : Prop := match x, y with | .v (.int i), .v (.int j) => rg2Ok i j ∧ Q ⟨upto i (j - i).toNat, []⟩ M | _, _ => False
def kiZip1 (b : E) (ρ : Env) (Q : Src → Mem → Prop) (x : Out) (M : Mem) : Prop := WE b ρ M fun y M => WSrc (zipOf x y M) M Q
def kiZip2 (Q : Src → Mem → Prop) (x : Out) (y : Out) (M : Mem) : Prop := WSrc (zipOf x y M) M Q
def kiEnum (Q : Src → Mem → Prop) (x : Out) (M : Mem) : Prop := WSrc (enumOf x M) M Q
def kgE (M : Mem) (Q : Env → Mem → Prop) (ρ : Env) : Prop := Q ρ M
def kgIx1 (i : E) (d : D) (ρ : Env) (Q : Env → Mem → Prop) (x : Out) (M : Mem) : Prop := WE i ρ M fun y M => WM (stoF x y d M) fun M => Q ρ M
def kgIx2 (d : D) (ρ : Env) (Q : Env → Mem → Prop) (x : Out) (y : Out) (M : Mem) : Prop := WM (stoF x y d M) fun M => Q ρ M
def kgDx1 (i : E) (d : D) (ρ : Env) (Q : Env → Mem → Prop) (x : Out) (M : Mem) : Prop := WE i ρ M fun y M => WM (dstoF x y d M) fun M => Q ρ M
def kgDx2 (d : D) (ρ : Env) (Q : Env → Mem → Prop) (x : Out) (y : Out) (M : Mem) : Prop := WM (dstoF x y d M) fun M => Q ρ M
def kgQ (ρ : Env) (Q : Env → Mem → Prop) (M : Mem) : Prop := Q ρ M
def kSeq (b : S) (Q : R → Prop) (r : R) : Prop := match r with | .nx ρ M => WS b ρ M Q | r => Q r
def kSet (i : Nat) (ρ : Env) (Q : R → Prop) (x : Out) (M : Mem) : Prop := Q (.nx (ρ.set i (some (val x M).1)) (val x M).2)
def kPut (g : G) (ρ : Env) (Q : R → Prop) (x : Out) (M : Mem) : Prop := WG g (val x M).1 ρ (val x M).2 fun ρ M => Q (.nx ρ M)
def kNx (Q : R → Prop) (ρ : Env) (M : Mem) : Prop := Q (.nx ρ M)
def kPar (is : List Nat) (ρ : Env) (Q : R → Prop) (ds : List D) (M : Mem) : Prop := WEnv (setAll is ds ρ) fun ρ => Q (.nx ρ M)
def kNx1 (Q : R → Prop) (M : Mem) (ρ : Env) : Prop := Q (.nx ρ M)
def kDo (ρ : Env) (Q : R → Prop) (x : Out) (M : Mem) : Prop := Q (.nx ρ M)
def kRet (Q : R → Prop) (x : Out) (M : Mem) : Prop := Q (.rt x M)
def kIfS (a b : S) (ρ : Env) (Q : R → Prop) (c : Bool) (M : Mem) : Prop := match c with | true => WS a ρ M Q | false => WS b ρ M Q
def kAug1 (i : Nat) (f : F2) (e : E) (ρ : Env) (M : Mem) (Q : R → Prop) (d : D) : Prop := WE e ρ M fun x M => WO (f (.v d) x M) fun z M => Q (.nx (ρ.set i (some (val z M).1)) (val z M).2)
def kAug2 (i : Nat) (f : F2) (ρ : Env) (Q : R → Prop) (d : D) (x : Out) (M : Mem) : Prop := WO (f (.v d) x M) fun z M => Q (.nx (ρ.set i (some (val z M).1)) (val z M).2)
def kFor (g : G) (body : S) (ρ : Env) (Q : R → Prop) (s : Src) (M : Mem) : Prop := WL g body s.live s.items ρ M Q
def kFn (M0 : Mem) (Q : PO2) (r : R) : Prop := match r with | .rt x M => Q (shut M0 x M).1 (shut M0 x M).2 | .nx _ M => Q (shut M0 (.v .non) M).1 (shut M0 (.v .non) M).2 | _ => False
/-- a turn of a loop -/
def kTurn (J : Env → Mem → Prop) (Q : R → Prop) (r : R) : Prop := match r with | .nx ρ M => J ρ M | .ct ρ M => J ρ M | .bk ρ M => Q (.nx ρ M) | .rt v M => Q (.rt v M)
def kG (body : S) (Q : R → Prop) (ρ : Env) (M : Mem) : Prop := WS body ρ M Q

section
variable {a b c : E} {ca cb : B} {fr : A} {s1 s2 : S} {it : I} {g : G} {ρ : Env} {M : Mem} {Q : PO2} {QB : Bool → Mem → Prop} {QA : List D → Mem → Prop} {QN : Option Int → Mem → Prop} {QS : R → Prop} {QI : Src → Mem → Prop} {QG : Env → Mem → Prop} {f : F2} {f1 : F1} {f3 : F3} {x y z : Out} {d : D} {ds : List D}
theorem wo_some {r : Out} : WO (some (r, M)) Q ↔ Q r M := ⟨fun ⟨_, _, e, h⟩ => by cases e; exact h, fun h => ⟨_, _, rfl, h⟩⟩
theorem wsrc_some {s : Src} : WSrc (some s) M QI ↔ QI s M := ⟨fun ⟨_, e, h⟩ => by cases e; exact h, fun h => ⟨_, rfl, h⟩⟩
theorem wm_some {P : Mem → Prop} : WM (some M) P ↔ P M := ⟨fun ⟨_, e, h⟩ => by cases e; exact h, fun h => ⟨_, rfl, h⟩⟩
theorem wenv_some {P : Env → Prop} : WEnv (some ρ) P ↔ P ρ := ⟨fun ⟨_, e, h⟩ => by cases e; exact h, fun h => ⟨_, rfl, h⟩⟩
theorem wd_some {P : D → Prop} : WD (some (some d)) P ↔ P d := ⟨fun ⟨_, e, h⟩ => by cases e; exact h, fun h => ⟨_, rfl, h⟩⟩
theorem bex {α β γ : Type} {o : Option (α × β)} {h : α × β → Option γ} {P : γ → Prop} : (∃ r, o.bind h = some r ∧ P r) ↔ ∃ x y, o = some (x, y) ∧ ∃ r, h (x, y) = some r ∧ P r := by
  constructor
  · rintro ⟨r, e, p⟩
    obtain ⟨⟨x, y⟩, e1, e2⟩ := bind_some e
    exact ⟨x, y, e1, r, e2, p⟩
  · rintro ⟨x, y, e1, r, e2, p⟩
    exact ⟨r, by rw [e1]; exact e2, p⟩
theorem bex2 {α β γ δ : Type} {o : Option (α × β)} {h : α × β → Option (γ × δ)} {P : γ → δ → Prop} : (∃ r s, o.bind h = some (r, s) ∧ P r s) ↔ ∃ x y, o = some (x, y) ∧ ∃ r s, h (x, y) = some (r, s) ∧ P r s := by
  constructor
  · rintro ⟨r, s, e, p⟩
    obtain ⟨⟨x, y⟩, e1, e2⟩ := bind_some e
    exact ⟨x, y, e1, r, s, e2, p⟩
  · rintro ⟨x, y, e1, r, s, e2, p⟩
    exact ⟨r, s, by rw [e1]; exact e2, p⟩
theorem nex2 {γ δ : Type} {P : γ → δ → Prop} : (∃ r s, (none : Option (γ × δ)) = some (r, s) ∧ P r s) ↔ False := ⟨fun ⟨_, _, e, _⟩ => (by cases e), False.elim⟩
theorem sex2 {γ δ : Type} {P : γ → δ → Prop} {x : γ} {y : δ} : (∃ r s, some (x, y) = some (r, s) ∧ P r s) ↔ P x y := ⟨fun ⟨_, _, e, h⟩ => by cases e; exact h, fun h => ⟨_, _, rfl, h⟩⟩
theorem sex1 {γ : Type} {P : γ → Prop} {x : γ} : (∃ r, some x = some r ∧ P r) ↔ P x := ⟨fun ⟨_, e, h⟩ => by cases e; exact h, fun h => ⟨_, rfl, h⟩⟩
theorem nex1 {γ : Type} {P : γ → Prop} : (∃ r, (none : Option γ) = some r ∧ P r) ↔ False := ⟨fun ⟨_, e, _⟩ => (by cases e), False.elim⟩
theorem ifex2 {γ δ : Type} {P : γ → δ → Prop} {p : Prop} [Decidable p] {x : γ} {y : δ} : (∃ r s, (if p then some (x, y) else none) = some (r, s) ∧ P r s) ↔ p ∧ P x y := by
  by_cases h : p
  · rw [if_pos h, sex2]; exact ⟨fun q => ⟨h, q⟩, fun q => q.2⟩
  · rw [if_neg h, nex2]; exact ⟨False.elim, fun q => h q.1⟩
theorem we_var {i : Nat} : WE (eVar i) ρ M Q ↔ WD ρ[i]? (kV M Q) := by
  constructor
  · rintro ⟨r, M', e, p⟩
    unfold eVar at e
    split at e
    · rename_i d hd; cases e; exact ⟨d, hd, p⟩
    · cases e
  · rintro ⟨d, e, p⟩
    exact ⟨_, _, by simp only [eVar, e], p⟩
theorem kV_eq : kV M Q d ↔ Q (.v d) M := Iff.rfl
theorem we_c : WE (eC d) ρ M Q ↔ Q (.v d) M := sex2
theorem we_bin : WE (eBin f a b) ρ M Q ↔ WE a ρ M (kBin1 f b ρ Q) := by
  unfold WE eBin; rw [bex2]; simp only [bex2]; exact Iff.rfl
theorem kBin1_eq : kBin1 f b ρ Q x M ↔ WE b ρ M (kBin2 f x Q) := Iff.rfl
theorem kBin2_eq : kBin2 f x Q y M ↔ WO (f x y M) Q := Iff.rfl
theorem we_un : WE (eUn f1 a) ρ M Q ↔ WE a ρ M (kUn f1 Q) := by unfold WE eUn; rw [bex2]; exact Iff.rfl
theorem kUn_eq : kUn f1 Q x M ↔ WO (f1 x M) Q := Iff.rfl
theorem we_and : WE (eAnd a b) ρ M Q ↔ WE a ρ M (kAnd b ρ Q) := by
  unfold WE eAnd; rw [bex2]; refine exists_congr fun x => exists_congr fun y => and_congr_right fun _ => ?_
  cases x with
  | o b => exact nex2
  | v d => cases d with
    | bl p => cases p <;> first | exact Iff.rfl | exact sex2
    | _ => exact nex2
theorem kAnd_t : kAnd b ρ Q (.v (.bl true)) M ↔ WE b ρ M Q := Iff.rfl
theorem kAnd_f : kAnd b ρ Q (.v (.bl false)) M ↔ Q (.v (.bl false)) M := Iff.rfl
theorem we_or : WE (eOr a b) ρ M Q ↔ WE a ρ M (kOr b ρ Q) := by
  unfold WE eOr; rw [bex2]; refine exists_congr fun x => exists_congr fun y => and_congr_right fun _ => ?_
  cases x with
  | o b => exact nex2
  | v d => cases d with
    | bl p => cases p <;> first | exact Iff.rfl | exact sex2
    | _ => exact nex2
theorem kOr_t : kOr b ρ Q (.v (.bl true)) M ↔ Q (.v (.bl true)) M := Iff.rfl
theorem kOr_f : kOr b ρ Q (.v (.bl false)) M ↔ WE b ρ M Q := Iff.rfl
theorem we_not : WE (eNot a) ρ M Q ↔ WE a ρ M (kNot Q) := by
  unfold WE eNot; rw [bex2]; refine exists_congr fun x => exists_congr fun y => and_congr_right fun _ => ?_
  cases x with
  | o b => exact nex2
  | v d => cases d with
    | bl p => exact sex2
    | _ => exact nex2
theorem kNot_eq {p : Bool} : kNot Q (.v (.bl p)) M ↔ Q (.v (.bl (!p))) M := Iff.rfl
theorem we_if : WE (eIf ca a b) ρ M Q ↔ WB ca ρ M (kIf a b ρ Q) := by
  unfold WE WB eIf; rw [bex2]; refine exists_congr fun x => exists_congr fun y => and_congr_right fun _ => ?_
  unfold kIf; cases x <;> exact Iff.rfl
theorem kIf_t : kIf a b ρ Q true M ↔ WE a ρ M Q := Iff.rfl
theorem kIf_f : kIf a b ρ Q false M ↔ WE b ρ M Q := Iff.rfl
theorem wb_of : WB (bOf a) ρ M QB ↔ WE a ρ M (kOf QB) := by
  unfold WE WB bOf; rw [bex2]; refine exists_congr fun x => exists_congr fun y => and_congr_right fun _ => ?_
  cases x with
  | o b => exact nex2
  | v d => cases d with
    | bl p => exact sex2
    | _ => exact nex2
theorem kOf_eq {p : Bool} : kOf QB (.v (.bl p)) M ↔ QB p M := Iff.rfl
theorem wb_and : WB (bAnd ca cb) ρ M QB ↔ WB ca ρ M (kbAnd cb ρ QB) := by
  unfold WB bAnd; rw [bex2]; refine exists_congr fun x => exists_congr fun y => and_congr_right fun _ => ?_
  unfold kbAnd; cases x <;> first | exact Iff.rfl | exact sex2
theorem kbAnd_t : kbAnd cb ρ QB true M ↔ WB cb ρ M QB := Iff.rfl
theorem kbAnd_f : kbAnd cb ρ QB false M ↔ QB false M := Iff.rfl
theorem wb_or : WB (bOr ca cb) ρ M QB ↔ WB ca ρ M (kbOr cb ρ QB) := by
  unfold WB bOr; rw [bex2]; refine exists_congr fun x => exists_congr fun y => and_congr_right fun _ => ?_
  unfold kbOr; cases x <;> first | exact Iff.rfl | exact sex2
theorem kbOr_t : kbOr cb ρ QB true M ↔ QB true M := Iff.rfl
theorem kbOr_f : kbOr cb ρ QB false M ↔ WB cb ρ M QB := Iff.rfl
theorem wb_not : WB (bNot ca) ρ M QB ↔ WB ca ρ M (kbNot QB) := by
  unfold WB bNot; rw [bex2]; refine exists_congr fun x => exists_congr fun y => and_congr_right fun _ => sex2
theorem kbNot_eq {p : Bool} : kbNot QB p M ↔ QB (!p) M := Iff.rfl
theorem wb_yes : WB bYes ρ M QB ↔ QB true M := sex2
theorem wa_nil : WA aNil ρ M QA ↔ QA [] M := sex2
theorem wa_cons : WA (aCons a fr) ρ M QA ↔ WE a ρ M (kCons1 fr ρ QA) := by
  unfold WA WE aCons; rw [bex2]; refine exists_congr fun x => exists_congr fun y => and_congr_right fun _ => ?_
  unfold kCons1 WA; rw [bex2]; refine exists_congr fun x => exists_congr fun y => and_congr_right fun _ => sex2
theorem kCons1_v : kCons1 fr ρ QA (.v d) M ↔ WA fr ρ M (kCons2 d QA) := Iff.rfl
theorem kCons1_o {o : Ob} : kCons1 fr ρ QA (.o o) M ↔ WA fr ρ (M ++ [o]) (kCons2 (.ref M.length) QA) := Iff.rfl
theorem kCons2_eq : kCons2 d QA ds M ↔ QA (d :: ds) M := Iff.rfl
theorem we_tup : WE (eTup fr) ρ M Q ↔ WA fr ρ M (kTup Q) := by
  unfold WE WA eTup; rw [bex2]; refine exists_congr fun x => exists_congr fun y => and_congr_right fun _ => ifex2
theorem kTup_eq : kTup Q ds M ↔ fits ds.length ∧ Q (.v (.tup ds)) M := Iff.rfl
theorem we_lst : WE (eLst fr) ρ M Q ↔ WA fr ρ M (kLst Q) := by
  unfold WE WA eLst; rw [bex2]; refine exists_congr fun x => exists_congr fun y => and_congr_right fun _ => ifex2
theorem kLst_eq : kLst Q ds M ↔ fits ds.length ∧ Q (.o (.lst ds)) M := Iff.rfl
theorem we_call {F : Fn} : WE (eCall F fr) ρ M Q ↔ WA fr ρ M (kCall F Q) := by unfold WE WA eCall; rw [bex2]; exact Iff.rfl
theorem kCall_eq {F : Fn} : kCall F Q ds M ↔ WO (F ds M) Q := Iff.rfl
theorem we_chain {f' : F2} : WE (eChain f f' a b c) ρ M Q ↔ WE a ρ M (kCh1 f f' b c ρ Q) := by
  unfold WE eChain; rw [bex2]; refine exists_congr fun x => exists_congr fun y => and_congr_right fun _ => ?_
  unfold kCh1 WE; rw [bex2]; refine exists_congr fun x => exists_congr fun y => and_congr_right fun _ => ?_
  unfold WO; rw [bex2]; refine exists_congr fun x3 => exists_congr fun y3 => and_congr_right fun _ => ?_
  cases x3 with
  | o b => exact nex2
  | v d => cases d with
    | bl p => cases p with
      | true => simp only [bex2]
      | false => exact sex2
    | _ => exact nex2
theorem kCh1_eq {f' : F2} : kCh1 f f' b c ρ Q x M ↔ WE b ρ M (kCh2 f f' c ρ Q x) := Iff.rfl
theorem kCh2_eq {f' : F2} : kCh2 f f' c ρ Q x y M ↔ WO (f x y M) (kCh3 f' c ρ Q y) := Iff.rfl
theorem kCh3_t {f' : F2} : kCh3 f' c ρ Q y (.v (.bl true)) M ↔ WE c ρ M (kBin2 f' y Q) := Iff.rfl
theorem kCh3_f {f' : F2} : kCh3 f' c ρ Q y (.v (.bl false)) M ↔ Q (.v (.bl false)) M := Iff.rfl
theorem itn2 {α β : Type} {p : Prop} [Decidable p] {o : Option (α × β)} {P : α → β → Prop} : (∃ r s, (if p then o else none) = some (r, s) ∧ P r s) ↔ p ∧ ∃ r s, o = some (r, s) ∧ P r s := by
  by_cases h : p <;> simp [h]
theorem we_mt1 {T : String} : WE (eMt1 T f a b) ρ M Q ↔ WE a ρ M (kMt1 T f b ρ Q) := by
  unfold WE eMt1; rw [bex2]; refine exists_congr fun x => exists_congr fun y => and_congr_right fun _ => ?_
  rw [itn2]; unfold kMt1 WE; rw [bex2]; exact Iff.rfl
theorem kMt1_eq {T : String} : kMt1 T f b ρ Q x M ↔ isTyB T x M = true ∧ WE b ρ M (kBin2 f x Q) := Iff.rfl
theorem we_mt0 {T : String} : WE (eMt0 T f1 a) ρ M Q ↔ WE a ρ M (kMt0 T f1 Q) := by
  unfold WE eMt0; rw [bex2]; refine exists_congr fun x => exists_congr fun y => and_congr_right fun _ => ?_
  rw [itn2]; exact Iff.rfl
theorem kMt0_eq {T : String} : kMt0 T f1 Q x M ↔ isTyB T x M = true ∧ WO (f1 x M) Q := Iff.rfl
theorem we_dm1 : WE (eDm1 f a b) ρ M Q ↔ WE a ρ M (kDm1 f b ρ Q) := by
  unfold WE eDm1; rw [bex2]; refine exists_congr fun x => exists_congr fun y => and_congr_right fun _ => ?_
  rw [itn2]; unfold kDm1 WE; rw [bex2]; exact Iff.rfl
theorem kDm1_eq : kDm1 f b ρ Q x M ↔ isDct x M = true ∧ WE b ρ M (kBin2 f x Q) := Iff.rfl
theorem we_dm2 : WE (eDm2 f3 a b c) ρ M Q ↔ WE a ρ M (kDm2 f3 b c ρ Q) := by
  unfold WE eDm2; rw [bex2]; refine exists_congr fun x => exists_congr fun y => and_congr_right fun _ => ?_
  rw [itn2]; unfold kDm2 WE; rw [bex2]; simp only [bex2]; exact Iff.rfl
theorem kDm2_eq : kDm2 f3 b c ρ Q x M ↔ isDct x M = true ∧ WE b ρ M (kDm2b f3 c ρ x Q) := Iff.rfl
theorem kDm2b_eq : kDm2b f3 c ρ x Q y M ↔ WE c ρ M (kF3 f3 x y Q) := Iff.rfl
theorem kF3_eq : kF3 f3 x y Q z M ↔ WO (f3 x y z M) Q := Iff.rfl
theorem we_tm1 : WE (eTm1 f a b) ρ M Q ↔ WE a ρ M (kTm1 f b ρ Q) := by
  unfold WE eTm1; rw [bex2]; refine exists_congr fun x => exists_congr fun y => and_congr_right fun _ => ?_
  unfold kTm1 WE
  cases x with
  | o b => exact nex2
  | v d => cases d with
    | tup xs => simp only [bex2]; exact Iff.rfl
    | _ => exact nex2
theorem kTm1_eq {xs : List D} : kTm1 f b ρ Q (.v (.tup xs)) M ↔ WE b ρ M (kBin2 f (.v (.tup xs)) Q) := Iff.rfl
theorem kTm1_tN {w : List Nat} : kTm1 f b ρ Q (.v (tN w)) M ↔ WE b ρ M (kBin2 f (.v (tN w)) Q) := Iff.rfl
theorem we_sl {lo hi : O} : WE (eSl a lo hi) ρ M Q ↔ WE a ρ M (kSl1 lo hi ρ Q) := by
  unfold WE eSl; rw [bex2]; refine exists_congr fun x => exists_congr fun y => and_congr_right fun _ => ?_
  unfold kSl1 WN; rw [bex2]; simp only [bex2]; exact Iff.rfl
theorem kSl1_eq {lo hi : O} : kSl1 lo hi ρ Q x M ↔ WN lo ρ M (kSl2 hi ρ Q x) := Iff.rfl
theorem kSl2_eq {hi : O} {l : Option Int} : kSl2 hi ρ Q x l M ↔ WN hi ρ M (kSl3 Q x l) := Iff.rfl
theorem kSl3_eq {l h : Option Int} : kSl3 Q x l h M ↔ WO (slF x l h M) Q := Iff.rfl
theorem wn_none : WN oNone ρ M QN ↔ QN none M := sex2
theorem wn_some : WN (oSome a) ρ M QN ↔ WE a ρ M (kSome QN) := by
  unfold WN WE oSome; rw [bex2]; refine exists_congr fun x => exists_congr fun y => and_congr_right fun _ => ?_
  cases x with
  | o b => exact nex2
  | v d => cases d with
    | int p => exact sex2
    | _ => exact nex2
theorem kSome_eq {i : Int} : kSome QN (.v (.int i)) M ↔ QN (some i) M := Iff.rfl
theorem we_comp {vs : List Nat} {t : Tg} : WE (eComp it vs t ca a) ρ M Q ↔ WI it ρ M (kComp t ca a (wipeE ρ vs) Q) := by
  unfold WE WI eComp; rw [bex2]; refine exists_congr fun x => exists_congr fun y => and_congr_right fun _ => ?_
  rw [bex2]; unfold kComp WC; refine exists_congr fun x => exists_congr fun y => and_congr_right fun _ => sex2
theorem kComp_eq {t : Tg} {xs : List D} {lv : List (Nat × Ob)} : kComp t ca a ρ Q ⟨xs, lv⟩ M ↔ WC t ca a lv ρ xs M (kOl Q) := Iff.rfl
theorem kOl_eq : kOl Q ds M ↔ Q (.o (.lst ds)) M := Iff.rfl
theorem we_rg1 {mk : List D → Out} : WE (eRg1 mk a) ρ M Q ↔ WE a ρ M (kRg1 mk Q) := by
  unfold WE eRg1; rw [bex2]; refine exists_congr fun x => exists_congr fun y => and_congr_right fun _ => ?_
  cases x with
  | o b => exact nex2
  | v d => cases d with
    | int p => exact ifex2
    | _ => exact nex2
theorem kRg1_eq {mk : List D → Out} {j : Int} : kRg1 mk Q (.v (.int j)) M ↔ rgOk j ∧ Q (mk (upto 0 j.toNat)) M := Iff.rfl
theorem we_rg2 {mk : List D → Out} : WE (eRg2 mk a b) ρ M Q ↔ WE a ρ M (kRg2a mk b ρ Q) := by
  unfold WE eRg2; rw [bex2]; refine exists_congr fun x => exists_congr fun y => and_congr_right fun _ => ?_
  rw [bex2]; unfold kRg2a WE; refine exists_congr fun x2 => exists_congr fun y2 => and_congr_right fun _ => ?_
  cases x with
  | o b => exact nex2
  | v d => cases d with
    | int p => cases x2 with
      | o b => exact nex2
      | v d2 => cases d2 with
        | int p => exact ifex2
        | _ => exact nex2
    | _ => exact nex2
theorem kRg2a_eq {mk : List D → Out} : kRg2a mk b ρ Q x M ↔ WE b ρ M (kRg2b mk Q x) := Iff.rfl
theorem kRg2b_eq {mk : List D → Out} {i j : Int} : kRg2b mk Q (.v (.int i)) (.v (.int j)) M ↔ rg2Ok i j ∧ Q (mk (upto i (j - i).toNat)) M := Iff.rfl
theorem we_dnew : WE eDnew ρ M Q ↔ Q (.o (.dcr [])) M := sex2
/-! walks -/
theorem wi_e : WI (iE a) ρ M QI ↔ WE a ρ M (kiE QI) := by
  unfold WI WE iE; rw [bex2]; refine exists_congr fun x => exists_congr fun y => and_congr_right fun _ => ?_
  unfold kiE WSrc
  constructor
  · rintro ⟨r, s, e, p⟩; obtain ⟨u, e1, e2⟩ := bind_some e; cases e2; exact ⟨_, e1, p⟩
  · rintro ⟨u, e1, p⟩; exact ⟨u, y, by simp only at e1 ⊢; rw [e1]; rfl, p⟩
theorem kiE_eq : kiE QI x M ↔ WSrc (srcOf x M) M QI := Iff.rfl
theorem wi_rg1 : WI (iRg1 a) ρ M QI ↔ WE a ρ M (kiRg1 QI) := by
  unfold WI WE iRg1; rw [bex2]; refine exists_congr fun x => exists_congr fun y => and_congr_right fun _ => ?_
  cases x with
  | o b => exact nex2
  | v d => cases d with
    | int p => exact ifex2
    | _ => exact nex2
theorem kiRg1_eq {j : Int} : kiRg1 QI (.v (.int j)) M ↔ rgOk j ∧ QI ⟨upto 0 j.toNat, []⟩ M := Iff.rfl
theorem wi_rg2 : WI (iRg2 a b) ρ M QI ↔ WE a ρ M (kiRg2a b ρ QI) := by
  unfold WI WE iRg2; rw [bex2]; refine exists_congr fun x => exists_congr fun y => and_congr_right fun _ => ?_
  rw [bex2]; unfold kiRg2a WE; refine exists_congr fun x2 => exists_congr fun y2 => and_congr_right fun _ => ?_
  cases x with
  | o b => exact nex2
  | v d => cases d with
    | int p => cases x2 with
      | o b => exact nex2
      | v d2 => cases d2 with
        | int p => exact ifex2
        | _ => exact nex2
    | _ => exact nex2
theorem kiRg2a_eq : kiRg2a b ρ QI x M ↔ WE b ρ M (kiRg2b QI x) := Iff.rfl
theorem kiRg2b_eq {i j : Int} : kiRg2b QI (.v (.int i)) (.v (.int j)) M ↔ rg2Ok i j ∧ QI ⟨upto i (j - i).toNat, []⟩ M := Iff.rfl
theorem wi_zip : WI (iZip a b) ρ M QI ↔ WE a ρ M (kiZip1 b ρ QI) := by
  unfold WI WE iZip; rw [bex2]; refine exists_congr fun x => exists_congr fun y => and_congr_right fun _ => ?_
  rw [bex2]; unfold kiZip1 WE WSrc; refine exists_congr fun x => exists_congr fun y => and_congr_right fun _ => ?_
  constructor
  · rintro ⟨r, s, e, p⟩; obtain ⟨u, e1, e2⟩ := bind_some e; cases e2; exact ⟨_, e1, p⟩
  · rintro ⟨u, e1, p⟩; exact ⟨u, y, by simp only at e1 ⊢; rw [e1]; rfl, p⟩
theorem kiZip1_eq : kiZip1 b ρ QI x M ↔ WE b ρ M (kiZip2 QI x) := Iff.rfl
theorem kiZip2_eq : kiZip2 QI x y M ↔ WSrc (zipOf x y M) M QI := Iff.rfl
theorem wi_enum : WI (iEnumE a) ρ M QI ↔ WE a ρ M (kiEnum QI) := by
  unfold WI WE iEnumE; rw [bex2]; refine exists_congr fun x => exists_congr fun y => and_congr_right fun _ => ?_
  unfold kiEnum WSrc
  constructor
  · rintro ⟨r, s, e, p⟩; obtain ⟨u, e1, e2⟩ := bind_some e; cases e2; exact ⟨_, e1, p⟩
  · rintro ⟨u, e1, p⟩; exact ⟨u, y, by simp only at e1 ⊢; rw [e1]; rfl, p⟩
theorem kiEnum_eq : kiEnum QI x M ↔ WSrc (enumOf x M) M QI := Iff.rfl
/-! targets -/
theorem wg_t {t : Tg} : WG (gT t) d ρ M QG ↔ WEnv (t.put d ρ) (kgE M QG) := by
  unfold WG gT WEnv
  constructor
  · rintro ⟨r, s, e, p⟩
    obtain ⟨u, e1, e2⟩ := Option.map_eq_some_iff.mp e
    cases e2
    exact ⟨_, e1, p⟩
  · rintro ⟨u, e1, p⟩; exact ⟨u, M, by rw [e1]; rfl, p⟩
theorem kgE_eq : kgE M QG ρ ↔ QG ρ M := Iff.rfl
theorem wg_ix : WG (gIx a b) d ρ M QG ↔ WE a ρ M (kgIx1 b d ρ QG) := by
  unfold WG WE gIx; rw [bex2]; refine exists_congr fun x => exists_congr fun y => and_congr_right fun _ => ?_
  rw [bex2]; unfold kgIx1 WE WM; refine exists_congr fun x => exists_congr fun y => and_congr_right fun _ => ?_
  constructor
  · rintro ⟨r, s, e, p⟩; obtain ⟨u, e1, e2⟩ := bind_some e; cases e2; exact ⟨_, e1, p⟩
  · rintro ⟨u, e1, p⟩; exact ⟨ρ, u, by simp only at e1 ⊢; rw [e1]; rfl, p⟩
theorem kgIx1_eq : kgIx1 b d ρ QG x M ↔ WE b ρ M (kgIx2 d ρ QG x) := Iff.rfl
theorem kgIx2_eq : kgIx2 d ρ QG x y M ↔ WM (stoF x y d M) (kgQ ρ QG) := Iff.rfl
theorem wg_dx : WG (gDx a b) d ρ M QG ↔ WE a ρ M (kgDx1 b d ρ QG) := by
  unfold WG WE gDx; rw [bex2]; refine exists_congr fun x => exists_congr fun y => and_congr_right fun _ => ?_
  rw [bex2]; unfold kgDx1 WE WM; refine exists_congr fun x => exists_congr fun y => and_congr_right fun _ => ?_
  constructor
  · rintro ⟨r, s, e, p⟩; obtain ⟨u, e1, e2⟩ := bind_some e; cases e2; exact ⟨_, e1, p⟩
  · rintro ⟨u, e1, p⟩; exact ⟨ρ, u, by simp only at e1 ⊢; rw [e1]; rfl, p⟩
theorem kgDx1_eq : kgDx1 b d ρ QG x M ↔ WE b ρ M (kgDx2 d ρ QG x) := Iff.rfl
theorem kgDx2_eq : kgDx2 d ρ QG x y M ↔ WM (dstoF x y d M) (kgQ ρ QG) := Iff.rfl
theorem kgQ_eq : kgQ ρ QG M ↔ QG ρ M := Iff.rfl
/-! statements -/
theorem ws_nil : WS sNil ρ M QS ↔ QS (.nx ρ M) := sex1
theorem ws_brk : WS sBrk ρ M QS ↔ QS (.bk ρ M) := sex1
theorem ws_cnt : WS sCnt ρ M QS ↔ QS (.ct ρ M) := sex1
theorem ws_retN : WS sRetN ρ M QS ↔ QS (.rt (.v .non) M) := sex1
theorem bexS {γ δ : Type} {o : Option γ} {h : γ → Option δ} {P : δ → Prop} : (∃ r, o.bind h = some r ∧ P r) ↔ ∃ x, o = some x ∧ ∃ r, h x = some r ∧ P r := by
  constructor
  · rintro ⟨r, e, p⟩
    obtain ⟨x, e1, e2⟩ := bind_some e
    exact ⟨x, e1, r, e2, p⟩
  · rintro ⟨x, e1, r, e2, p⟩
    exact ⟨r, by rw [e1]; exact e2, p⟩
theorem ws_seq : WS (sSeq s1 s2) ρ M QS ↔ WS s1 ρ M (kSeq s2 QS) := by
  unfold WS sSeq; rw [bexS]; refine exists_congr fun x => and_congr_right fun _ => ?_
  unfold kSeq; cases x <;> first | exact Iff.rfl | exact sex1
theorem kSeq_nx : kSeq s2 QS (.nx ρ M) ↔ WS s2 ρ M QS := Iff.rfl
theorem kSeq_rt : kSeq s2 QS (.rt x M) ↔ QS (.rt x M) := Iff.rfl
theorem kSeq_bk : kSeq s2 QS (.bk ρ M) ↔ QS (.bk ρ M) := Iff.rfl
theorem kSeq_ct : kSeq s2 QS (.ct ρ M) ↔ QS (.ct ρ M) := Iff.rfl
theorem ws_set {i : Nat} : WS (sSet i a) ρ M QS ↔ WE a ρ M (kSet i ρ QS) := by
  unfold WS WE sSet; rw [bex]; refine exists_congr fun x => exists_congr fun y => and_congr_right fun _ => sex1
theorem kSet_v {i : Nat} : kSet i ρ QS (.v d) M ↔ QS (.nx (ρ.set i (some d)) M) := Iff.rfl
theorem kSet_o {i : Nat} {o : Ob} : kSet i ρ QS (.o o) M ↔ QS (.nx (ρ.set i (some (.ref M.length))) (M ++ [o])) := Iff.rfl
theorem ws_put : WS (sPut a g) ρ M QS ↔ WE a ρ M (kPut g ρ QS) := by
  unfold WS WE sPut; rw [bex]; refine exists_congr fun x => exists_congr fun y => and_congr_right fun _ => ?_
  rw [bex]; unfold kPut WG; refine exists_congr fun x => exists_congr fun y => and_congr_right fun _ => sex1
theorem kPut_v : kPut g ρ QS (.v d) M ↔ WG g d ρ M (kNx QS) := Iff.rfl
theorem kPut_o {o : Ob} : kPut g ρ QS (.o o) M ↔ WG g (.ref M.length) ρ (M ++ [o]) (kNx QS) := Iff.rfl
theorem kNx_eq : kNx QS ρ M ↔ QS (.nx ρ M) := Iff.rfl
theorem ws_par {is : List Nat} : WS (sPar is fr) ρ M QS ↔ WA fr ρ M (kPar is ρ QS) := by
  unfold WS WA sPar; rw [bex]; refine exists_congr fun x => exists_congr fun y => and_congr_right fun _ => ?_
  rw [bexS]; unfold kPar WEnv; refine exists_congr fun x => and_congr_right fun _ => sex1
theorem kPar_eq {is : List Nat} : kPar is ρ QS ds M ↔ WEnv (setAll is ds ρ) (kNx1 QS M) := Iff.rfl
theorem kNx1_eq : kNx1 QS M ρ ↔ QS (.nx ρ M) := Iff.rfl
theorem ws_do : WS (sDo a) ρ M QS ↔ WE a ρ M (kDo ρ QS) := by
  unfold WS WE sDo; rw [bex]; refine exists_congr fun x => exists_congr fun y => and_congr_right fun _ => sex1
theorem kDo_eq : kDo ρ QS x M ↔ QS (.nx ρ M) := Iff.rfl
theorem ws_ret : WS (sRet a) ρ M QS ↔ WE a ρ M (kRet QS) := by
  unfold WS WE sRet; rw [bex]; refine exists_congr fun x => exists_congr fun y => and_congr_right fun _ => sex1
theorem kRet_eq : kRet QS x M ↔ QS (.rt x M) := Iff.rfl
theorem ws_if : WS (sIf ca s1 s2) ρ M QS ↔ WB ca ρ M (kIfS s1 s2 ρ QS) := by
  unfold WS WB sIf; rw [bex]; refine exists_congr fun x => exists_congr fun y => and_congr_right fun _ => ?_
  unfold kIfS; cases x <;> exact Iff.rfl
theorem kIfS_t : kIfS s1 s2 ρ QS true M ↔ WS s1 ρ M QS := Iff.rfl
theorem kIfS_f : kIfS s1 s2 ρ QS false M ↔ WS s2 ρ M QS := Iff.rfl
theorem ws_aug {i : Nat} : WS (sAug i f a) ρ M QS ↔ WD ρ[i]? (kAug1 i f a ρ M QS) := by
  unfold WS sAug WD
  constructor
  · rintro ⟨r, e, p⟩
    split at e
    · rename_i d hd
      refine ⟨d, hd, ?_⟩
      have := (bex (P := QS)).mp ⟨r, e, p⟩
      obtain ⟨x, y, e1, r, e2, p⟩ := this
      obtain ⟨x2, y2, e3, r2, e4, p2⟩ := (bex (P := QS)).mp ⟨r, e2, p⟩
      cases e4
      exact ⟨x, y, e1, x2, y2, e3, p2⟩
    · cases e
  · rintro ⟨d, hd, x, y, e1, x2, y2, e3, p⟩
    refine ⟨_, ?_, p⟩
    simp only [hd, e1, Option.bind_some, e3]
theorem kAug1_eq {i : Nat} : kAug1 i f a ρ M QS d ↔ WE a ρ M (kAug2 i f ρ QS d) := Iff.rfl
theorem kAug2_eq {i : Nat} : kAug2 i f ρ QS d x M ↔ WO (f (.v d) x M) (kSet i ρ QS) := Iff.rfl
theorem ws_for : WS (sFor it g s1) ρ M QS ↔ WI it ρ M (kFor g s1 ρ QS) := by
  unfold WS WI sFor; rw [bex]; exact Iff.rfl
theorem kFor_eq {xs : List D} {lv : List (Nat × Ob)} : kFor g s1 ρ QS ⟨xs, lv⟩ M ↔ WL g s1 lv xs ρ M QS := Iff.rfl
theorem ws_while : WS (sWhile ca s1) ρ M QS ↔ WH ca s1 fuel ρ M QS := Iff.rfl
theorem kTurn_nx {J : Env → Mem → Prop} : kTurn J QS (.nx ρ M) ↔ J ρ M := Iff.rfl
theorem kTurn_ct {J : Env → Mem → Prop} : kTurn J QS (.ct ρ M) ↔ J ρ M := Iff.rfl
theorem kTurn_bk {J : Env → Mem → Prop} : kTurn J QS (.bk ρ M) ↔ QS (.nx ρ M) := Iff.rfl
theorem kTurn_rt {J : Env → Mem → Prop} : kTurn J QS (.rt x M) ↔ QS (.rt x M) := Iff.rfl
theorem kG_eq : kG s1 QS ρ M ↔ WS s1 ρ M QS := Iff.rfl
/-! defs -/
theorem wo_fn {np ns : Nat} (h : ds.length = np) : WO (fnD np ns s1 ds M) Q ↔ WS s1 (ds.map some ++ List.replicate (ns - np) none) M (kFn M Q) := by
  unfold WO WS fnD
  rw [if_pos h]
  constructor
  · rintro ⟨r, M', e, p⟩
    obtain ⟨x, e1, e2⟩ := bind_some e
    refine ⟨x, e1, ?_⟩
    unfold kFn
    split at e2 <;> first | cases e2 | skip
    · rename_i x' m' ; have := Option.some.inj e2; first | (simp only; rw [this]; exact p) | (rw [this]; exact p)
    · have := Option.some.inj e2; first | (simp only; rw [this]; exact p) | (rw [this]; exact p)
  · rintro ⟨x, e1, p⟩
    cases x with
    | rt v m' => exact ⟨_, _, by rw [e1]; rfl, p⟩
    | nx v m' => exact ⟨_, _, by rw [e1]; rfl, p⟩
    | bk v m' => exact p.elim
    | ct v m' => exact p.elim
theorem kFn_rt {M0 : Mem} : kFn M0 Q (.rt x M) ↔ Q (shut M0 x M).1 (shut M0 x M).2 := Iff.rfl
theorem kFn_nx {M0 : Mem} : kFn M0 Q (.nx ρ M) ↔ Q (shut M0 (.v .non) M).1 (shut M0 (.v .non) M).2 := Iff.rfl
end
end Q
namespace Q
open PySem L2
/-! ### all rules of the machine in one word -/
theorem lgz {α : Type} {a : α} {l : List α} : (a :: l)[0]? = some a := rfl
theorem lgs {α : Type} {a : α} {l : List α} {n : Nat} : (a :: l)[n + 1]? = l[n]? := List.getElem?_cons_succ
theorem lsz {α : Type} {a b : α} {l : List α} : (a :: l).set 0 b = b :: l := rfl
theorem lss {α : Type} {a b : α} {l : List α} {n : Nat} : (a :: l).set (n + 1) b = a :: l.set n b := rfl
theorem tpn {i : Nat} {d : D} {ρ : Env} : Tg.put (.nm i) d ρ = some (ρ.set i (some d)) := rfl
theorem tpt {is : List Nat} {ds : List D} {ρ : Env} : Tg.put (.tp is) (.tup ds) ρ = setAll is ds ρ := rfl
theorem tpp {is : List Nat} {ds : List D} {ρ : Env} : Tg.put (.tp is) (.par ds) ρ = setAll is ds ρ := rfl
theorem san {ρ : Env} : setAll [] [] ρ = some ρ := rfl
theorem sac {i : Nat} {is : List Nat} {d : D} {ds : List D} {ρ : Env} : setAll (i :: is) (d :: ds) ρ = setAll is ds (ρ.set i (some d)) := rfl
theorem wpn {ρ : Env} : wipeE ρ [] = ρ := rfl
theorem wpc {ρ : Env} {v : Nat} {vs : List Nat} : wipeE ρ (v :: vs) = (wipeE ρ vs).set v none := rfl
theorem ft0 : fits ([] : List D).length := fits_of (by simp)
theorem ft1 {a : D} : fits [a].length := fits_of (by simp)
theorem ft2 {a b : D} : fits [a, b].length := fits_of (by simp)
theorem ft3 {a b c : D} : fits [a, b, c].length := fits_of (by simp)
theorem ft4 {a b c d : D} : fits [a, b, c, d].length := fits_of (by simp)
theorem ft5 {a b c d e : D} : fits [a, b, c, d, e].length := fits_of (by simp)
theorem ft6 {a b c d e f : D} : fits [a, b, c, d, e, f].length := fits_of (by simp)
theorem ft7 {a b c d e f g : D} : fits [a, b, c, d, e, f, g].length := fits_of (by simp)
def wp := And.intro @wo_some (And.intro @wsrc_some (And.intro @wm_some (And.intro @wenv_some (And.intro @wd_some (And.intro @we_var (And.intro @kV_eq (And.intro @we_c (And.intro @we_bin (And.intro @kBin1_eq (And.intro @kBin2_eq (And.intro @we_un (And.intro @kUn_eq (And.intro @we_and (And.intro @kAnd_t (And.intro @kAnd_f (And.intro @we_or (And.intro @kOr_t (And.intro @kOr_f (And.intro @we_not (And.intro @kNot_eq (And.intro @we_if (And.intro @kIf_t (And.intro @kIf_f (And.intro @wb_of (And.intro @kOf_eq (And.intro @wb_and (And.intro @kbAnd_t (And.intro @kbAnd_f (And.intro @wb_or (And.intro @kbOr_t (And.intro @kbOr_f (And.intro @wb_not (And.intro @kbNot_eq (And.intro @wb_yes (And.intro @wa_nil (And.intro @wa_cons (And.intro @kCons1_v (And.intro @kCons1_o (And.intro @kCons2_eq (And.intro @we_tup (And.intro @kTup_eq (And.intro @we_lst (And.intro @kLst_eq (And.intro @we_call (And.intro @kCall_eq (And.intro @we_chain (And.intro @kCh1_eq (And.intro @kCh2_eq (And.intro @kCh3_t (And.intro @kCh3_f (And.intro @we_mt1 (And.intro @kMt1_eq (And.intro @we_mt0 (And.intro @kMt0_eq (And.intro @we_dm1 (And.intro @kDm1_eq (And.intro @we_dm2 (And.intro @kDm2_eq (And.intro @kDm2b_eq (And.intro @kF3_eq (And.intro @we_tm1 (And.intro @kTm1_eq (And.intro @kTm1_tN (And.intro @we_sl (And.intro @kSl1_eq (And.intro @kSl2_eq (And.intro @kSl3_eq (And.intro @wn_none (And.intro @wn_some (And.intro @kSome_eq (And.intro @we_comp (And.intro @kComp_eq (And.intro @kOl_eq (And.intro @we_rg1 (And.intro @kRg1_eq (And.intro @we_rg2 (And.intro @kRg2a_eq (And.intro @kRg2b_eq (And.intro @we_dnew (And.intro @wi_e (And.intro @kiE_eq (And.intro @wi_rg1 (And.intro @kiRg1_eq (And.intro @wi_rg2 (And.intro @kiRg2a_eq (And.intro @kiRg2b_eq (And.intro @wi_zip (And.intro @kiZip1_eq (And.intro @kiZip2_eq (And.intro @wi_enum (And.intro @kiEnum_eq (And.intro @wg_t (And.intro @kgE_eq (And.intro @wg_ix (And.intro @kgIx1_eq (And.intro @kgIx2_eq (And.intro @wg_dx (And.intro @kgDx1_eq (And.intro @kgDx2_eq (And.intro @kgQ_eq (And.intro @ws_nil (And.intro @ws_brk (And.intro @ws_cnt (And.intro @ws_retN (And.intro @ws_seq (And.intro @kSeq_nx (And.intro @kSeq_rt (And.intro @kSeq_bk (And.intro @kSeq_ct (And.intro @ws_set (And.intro @kSet_v (And.intro @kSet_o (And.intro @ws_put (And.intro @kPut_v (And.intro @kPut_o (And.intro @kNx_eq (And.intro @ws_par (And.intro @kPar_eq (And.intro @kNx1_eq (And.intro @ws_do (And.intro @kDo_eq (And.intro @ws_ret (And.intro @kRet_eq (And.intro @ws_if (And.intro @kIfS_t (And.intro @kIfS_f (And.intro @ws_aug (And.intro @kAug1_eq (And.intro @kAug2_eq (And.intro @ws_for (And.intro @kFor_eq (And.intro @ws_while (And.intro @kTurn_nx (And.intro @kTurn_ct (And.intro @kTurn_bk (And.intro @kTurn_rt (@kG_eq)))))))))))))))))))))))))))))))))))))))))))))))))))))))))))))))))))))))))))))))))))))))))))))))))))))))))))))))))))))))))))))))))))))))))
def wx := And.intro @lgz (And.intro @lgs (And.intro @lsz (And.intro @lss (And.intro @tpn (And.intro @tpt (And.intro @tpp (And.intro @san (And.intro @sac (And.intro @wpn (And.intro @wpc (And.intro @ft0 (And.intro @ft1 (And.intro @ft2 (And.intro @ft3 (And.intro @ft4 (And.intro @ft5 (And.intro @ft6 (And.intro @ft7 (And.intro @true_and (And.intro @Bool.not_true @Bool.not_false))))))))))))))))))))
theorem fn_0 {ns : Nat} {s1 : S} {M : Mem} {Q : PO2} : WO (fnD 0 ns s1 [] M) Q ↔ WS s1 (List.replicate (ns - 0) none) M (kFn M Q) := wo_fn rfl
theorem fn_1 {ns : Nat} {s1 : S} {M : Mem} {Q : PO2} {a : D} : WO (fnD 1 ns s1 [a] M) Q ↔ WS s1 (some a :: List.replicate (ns - 1) none) M (kFn M Q) := wo_fn rfl
theorem fn_2 {ns : Nat} {s1 : S} {M : Mem} {Q : PO2} {a b : D} : WO (fnD 2 ns s1 [a, b] M) Q ↔ WS s1 (some a :: some b :: List.replicate (ns - 2) none) M (kFn M Q) := wo_fn rfl
theorem fn_3 {ns : Nat} {s1 : S} {M : Mem} {Q : PO2} {a b c : D} : WO (fnD 3 ns s1 [a, b, c] M) Q ↔ WS s1 (some a :: some b :: some c :: List.replicate (ns - 3) none) M (kFn M Q) := wo_fn rfl
theorem fn_4 {ns : Nat} {s1 : S} {M : Mem} {Q : PO2} {a b c d : D} : WO (fnD 4 ns s1 [a, b, c, d] M) Q ↔ WS s1 (some a :: some b :: some c :: some d :: List.replicate (ns - 4) none) M (kFn M Q) := wo_fn rfl
theorem fn_5 {ns : Nat} {s1 : S} {M : Mem} {Q : PO2} {a b c d e : D} : WO (fnD 5 ns s1 [a, b, c, d, e] M) Q ↔ WS s1 (some a :: some b :: some c :: some d :: some e :: List.replicate (ns - 5) none) M (kFn M Q) := wo_fn rfl
theorem fn_6 {ns : Nat} {s1 : S} {M : Mem} {Q : PO2} {a b c d e f : D} : WO (fnD 6 ns s1 [a, b, c, d, e, f] M) Q ↔ WS s1 (some a :: some b :: some c :: some d :: some e :: some f :: List.replicate (ns - 6) none) M (kFn M Q) := wo_fn rfl
theorem fn_7 {ns : Nat} {s1 : S} {M : Mem} {Q : PO2} {a b c d e f g : D} : WO (fnD 7 ns s1 [a, b, c, d, e, f, g] M) Q ↔ WS s1 (some a :: some b :: some c :: some d :: some e :: some f :: some g :: List.replicate (ns - 7) none) M (kFn M Q) := wo_fn rfl
theorem fn_8 {ns : Nat} {s1 : S} {M : Mem} {Q : PO2} {a b c d e f g h : D} : WO (fnD 8 ns s1 [a, b, c, d, e, f, g, h] M) Q ↔ WS s1 (some a :: some b :: some c :: some d :: some e :: some f :: some g :: some h :: List.replicate (ns - 8) none) M (kFn M Q) := wo_fn rfl
theorem rp_s {n : Nat} : List.replicate (n + 1) (none : Option D) = none :: List.replicate n none := rfl
theorem rp_z : List.replicate 0 (none : Option D) = [] := rfl
def wf := And.intro @fn_0 (And.intro @fn_1 (And.intro @fn_2 (And.intro @fn_3 (And.intro @fn_4 (And.intro @fn_5 (And.intro @fn_6 (And.intro @fn_7 (And.intro @fn_8 (And.intro @rp_s (@rp_z))))))))))
end Q
namespace Q
open PySem L2
/-! ### ends of defs -/
def kIs (d : D) (M0 : Mem) (x : Out) (M : Mem) : Prop := x = .v d ∧ M = M0
theorem wo_eq {o : Option (Out × Mem)} {d : D} {M : Mem} (h : WO o (kIs d M)) : o = some (.v d, M) := by
  obtain ⟨r, M', e, rfl, rfl⟩ := h; exact e
theorem we_eq {e : E} {ρ : Env} {d : D} {M M0 : Mem} (h : WE e ρ M (kIs d M0)) : e ρ M = some (.v d, M0) := by
  obtain ⟨r, M', e, rfl, rfl⟩ := h; exact e
def kIsO (b : Ob) (M0 : Mem) (x : Out) (M : Mem) : Prop := x = .o b ∧ M = M0
theorem wo_eqO {o : Option (Out × Mem)} {d : Ob} {M : Mem} (h : WO o (kIsO d M)) : o = some (.o d, M) := by
  obtain ⟨r, M', e, rfl, rfl⟩ := h; exact e
theorem wo_ex {o : Option (Out × Mem)} {P : PO2} (h : WO o P) : ∃ r M, o = some (r, M) ∧ P r M := h
theorem WO.mono {o : Option (Out × Mem)} {P Q : PO2} (h : WO o P) (k : ∀ r M, P r M → Q r M) : WO o Q := by
  obtain ⟨r, M, e, p⟩ := h; exact ⟨r, M, e, k r M p⟩
theorem WS.mono {s : S} {ρ : Env} {M : Mem} {P Q : R → Prop} (h : WS s ρ M P) (k : ∀ r, P r → Q r) : WS s ρ M Q := by
  obtain ⟨r, e, p⟩ := h; exact ⟨r, e, k r p⟩
section
variable {M : Mem} {Q : PO2} {d : D} {b : Ob} {e : Mem}
theorem kFn_v (h : d.lo M.length) : kFn M Q (.rt (.v d) M) ↔ Q (.v d) M := by rw [kFn_rt, shut_s h]
theorem kFn_va (h : d.lo M.length) : kFn M Q (.rt (.v d) (M ++ e)) ↔ Q (.v d) M := by rw [kFn_rt, shut_v h]
theorem kFn_o (h : b.lo M.length) : kFn M Q (.rt (.o b) M) ↔ Q (.o b) M := by rw [kFn_rt, shut_os h]
theorem kFn_oa (h : b.lo M.length) : kFn M Q (.rt (.o b) (M ++ e)) ↔ Q (.o b) M := by rw [kFn_rt, shut_o h]
theorem kFn_ra {k : Nat} (hk : M.length ≤ k) (he : (M ++ e)[k]? = some b) (h : b.lo M.length) : kFn M Q (.rt (.v (.ref k)) (M ++ e)) ↔ Q (.o b) M := by
  rw [kFn_rt]
  unfold shut
  rw [if_pos (okM_app M e)]
  have h2 : ¬ D.lo M.length (.ref k) := by simp; exact hk
  simp only [if_neg h2, he, if_pos h, List.take_left]
theorem kFn_na {ρ : Env} : kFn M Q (.nx ρ (M ++ e)) ↔ Q (.v .non) M := by rw [kFn_nx, shut_v (by simp)]
theorem kFn_n {ρ : Env} : kFn M Q (.nx ρ M) ↔ Q (.v .non) M := by rw [kFn_nx, shut_s (by simp)]
end
/-! ### memory behind the memory -/
theorem gm0 {M e : Mem} : (M ++ e)[M.length]? = e[0]? := by rw [List.getElem?_append_right (Nat.le_refl _), Nat.sub_self]
theorem gmk {M e : Mem} {k : Nat} : (M ++ e)[M.length + k]? = e[k]? := by rw [List.getElem?_append_right (by omega)]; congr 1; omega
theorem sm0 {M e : Mem} {o : Ob} : (M ++ e).set M.length o = M ++ e.set 0 o := by rw [List.set_append_right _ _ (Nat.le_refl _), Nat.sub_self]
theorem smk {M e : Mem} {o : Ob} {k : Nat} : (M ++ e).set (M.length + k) o = M ++ e.set k o := by rw [List.set_append_right _ _ (by omega)]; congr 2; omega
theorem lapp {M e : Mem} : (M ++ e).length = M.length + e.length := List.length_append
theorem lcon {o : Ob} {e : Mem} : (o :: e).length = e.length + 1 := rfl
theorem lnil : ([] : Mem).length = 0 := rfl
theorem aas {M e f : Mem} : M ++ e ++ f = M ++ (e ++ f) := List.append_assoc _ _ _
theorem aco {o : Ob} {e f : Mem} : (o :: e) ++ f = o :: (e ++ f) := rfl
theorem ani {f : Mem} : ([] : Mem) ++ f = f := rfl
theorem nz {n : Nat} : 0 + n = n := Nat.zero_add n
def wm := And.intro @gm0 (And.intro @gmk (And.intro @sm0 (And.intro @smk (And.intro @lapp (And.intro @lcon (And.intro @lnil (And.intro @aas (And.intro @aco (And.intro @ani @nz)))))))))
/-! ### loops -/
theorem WG.ex {g : G} {d : D} {ρ : Env} {M : Mem} {P : Env → Mem → Prop} (h : WG g d ρ M P) : ∃ r M', g d ρ M = some (r, M') ∧ P r M' := h
theorem wl_inv {g : G} {body : S} {lv : List (Nat × Ob)} {xs : List D} {ρ : Env} {M : Mem} {Q : R → Prop} (J : Nat → Env → Mem → Prop) (h0 : J 0 ρ M) (hl : ∀ i ρ M, i ≤ xs.length → J i ρ M → chk lv M)
    (step : ∀ i x ρ M, xs[i]? = some x → J i ρ M → WG g x ρ M (kG body (kTurn (J (i + 1)) Q))) (done : ∀ ρ M, J xs.length ρ M → Q (.nx ρ M)) : WL g body lv xs ρ M Q := by
  have h : ∀ (n k : Nat) (ρ : Env) (M : Mem), n + k = xs.length → J k ρ M → ∃ r, forL g body lv (xs.drop k) ρ M = some r ∧ Q r := by
    intro n
    induction n with
    | zero =>
      intro k ρ M e j
      rw [List.drop_eq_nil_of_le (by omega), forL, if_pos (hl k ρ M (by omega) j)]
      exact ⟨_, rfl, done ρ M (by rw [show xs.length = k by omega]; exact j)⟩
    | succ n ih =>
      intro k ρ M e j
      have hk : k < xs.length := by omega
      rw [List.drop_eq_getElem_cons hk, forL, if_pos (hl k ρ M (by omega) j)]
      obtain ⟨ρ1, M1, e1, r, e2, p⟩ := step k _ ρ M (List.getElem?_eq_getElem hk) j
      simp only [e1, Option.bind_some, e2]
      cases r with
      | nx ρ2 M2 => exact ih (k + 1) ρ2 M2 (by omega) p
      | ct ρ2 M2 => exact ih (k + 1) ρ2 M2 (by omega) p
      | bk ρ2 M2 => exact ⟨_, rfl, p⟩
      | rt v M2 => exact ⟨_, rfl, p⟩
  have := h xs.length 0 ρ M (by omega) h0
  rw [List.drop_zero] at this
  exact this
theorem chk_nil {M : Mem} : chk [] M := fun p hp => by simp at hp
theorem chk_one {n : Nat} {xs : List D} {M : Mem} (h : M[n]? = some (.lst xs)) : chk [(n, .lst xs)] M := fun p hp => by simp at hp; subst hp; exact h
/-- over a typed list -/
theorem wl_typ {α : Type} (emb : α → D) (ys : List α) {g : G} {body : S} {ρ : Env} {M : Mem} {Q : R → Prop} (J : Nat → Env → Mem → Prop) (h0 : J 0 ρ M)
    (step : ∀ i (hi : i < ys.length) ρ M, J i ρ M → WG g (emb ys[i]) ρ M (kG body (kTurn (J (i + 1)) Q))) (done : ∀ ρ M, J ys.length ρ M → Q (.nx ρ M)) : WL g body [] (ys.map emb) ρ M Q :=
  wl_inv J h0 (fun _ _ _ _ _ => chk_nil) (fun i x ρ M hx j => by
    rw [List.getElem?_map] at hx
    obtain ⟨y, e1, rfl⟩ := Option.map_eq_some_iff.mp hx
    obtain ⟨hi, rfl⟩ := List.getElem?_eq_some_iff.mp e1
    exact step i hi ρ M j) (by rw [List.length_map]; exact done)
theorem wl_typl {α : Type} (emb : α → D) (ys : List α) {g : G} {body : S} {n : Nat} {ρ : Env} {M : Mem} {Q : R → Prop} (J : Nat → Env → Mem → Prop) (h0 : J 0 ρ M) (hl : ∀ i ρ M, J i ρ M → M[n]? = some (.lst (ys.map emb)))
    (step : ∀ i (hi : i < ys.length) ρ M, J i ρ M → WG g (emb ys[i]) ρ M (kG body (kTurn (J (i + 1)) Q))) (done : ∀ ρ M, J ys.length ρ M → Q (.nx ρ M)) : WL g body [(n, .lst (ys.map emb))] (ys.map emb) ρ M Q :=
  wl_inv J h0 (fun i ρ M _ j => chk_one (hl i ρ M j)) (fun i x ρ M hx j => by
    rw [List.getElem?_map] at hx
    obtain ⟨y, e1, rfl⟩ := Option.map_eq_some_iff.mp hx
    obtain ⟨hi, rfl⟩ := List.getElem?_eq_some_iff.mp e1
    exact step i hi ρ M j) (by rw [List.length_map]; exact done)
theorem wl_rg {lo : Int} {n : Nat} {g : G} {body : S} {ρ : Env} {M : Mem} {Q : R → Prop} (J : Nat → Env → Mem → Prop) (h0 : J 0 ρ M)
    (step : ∀ i ρ M, i < n → J i ρ M → WG g (.int (lo + (i : Int))) ρ M (kG body (kTurn (J (i + 1)) Q))) (done : ∀ ρ M, J n ρ M → Q (.nx ρ M)) : WL g body [] (upto lo n) ρ M Q :=
  wl_inv J h0 (fun _ _ _ _ _ => chk_nil) (fun i x ρ M hx j => by
    obtain ⟨hi, rfl⟩ := upto_get hx
    exact step i ρ M hi j) (by rw [upto_len]; exact done)
theorem wl_rg0 {n : Nat} {g : G} {body : S} {ρ : Env} {M : Mem} {Q : R → Prop} (J : Nat → Env → Mem → Prop) (h0 : J 0 ρ M)
    (step : ∀ i ρ M, i < n → J i ρ M → WG g (.int (i : Int)) ρ M (kG body (kTurn (J (i + 1)) Q))) (done : ∀ ρ M, J n ρ M → Q (.nx ρ M)) : WL g body [] (upto 0 n) ρ M Q :=
  wl_rg J h0 (fun i ρ M hi j => by rw [Int.zero_add]; exact step i ρ M hi j) done
def kWh (body : S) (J : Env → Mem → Prop) (Q : R → Prop) (ρ : Env) (b : Bool) (M : Mem) : Prop := match b with | true => WS body ρ M (kTurn J Q) | false => Q (.nx ρ M)
theorem kWh_t {body : S} {J : Env → Mem → Prop} {Q : R → Prop} {ρ : Env} {M : Mem} : kWh body J Q ρ true M ↔ WS body ρ M (kTurn J Q) := Iff.rfl
theorem kWh_f {body : S} {J : Env → Mem → Prop} {Q : R → Prop} {ρ : Env} {M : Mem} : kWh body J Q ρ false M ↔ Q (.nx ρ M) := Iff.rfl
theorem wh_inv {c : B} {body : S} {n n0 : Nat} {ρ : Env} {M : Mem} {Q : R → Prop} (J : Nat → Env → Mem → Prop) (hn : n0 < n) (h0 : J n0 ρ M)
    (step : ∀ k ρ M, J k ρ M → WB c ρ M (kWh body (fun ρ M => ∃ k', k' < k ∧ J k' ρ M) Q ρ)) : WH c body n ρ M Q := by
  induction n generalizing n0 ρ M with
  | zero => omega
  | succ n ih =>
    obtain ⟨b, M1, e1, p⟩ := step n0 ρ M h0
    unfold WH whL
    simp only [e1, Option.bind_some]
    cases b with
    | false => exact ⟨_, rfl, p⟩
    | true =>
      obtain ⟨r, e2, p⟩ := p
      simp only [e2, Option.bind_some]
      cases r with
      | nx ρ2 M2 => obtain ⟨k', hk, j⟩ := p; exact ih (by omega) j
      | ct ρ2 M2 => obtain ⟨k', hk, j⟩ := p; exact ih (by omega) j
      | bk ρ2 M2 => exact ⟨_, rfl, p⟩
      | rt v M2 => exact ⟨_, rfl, p⟩
theorem wfu {c : B} {body : S} {n0 : Nat} {ρ : Env} {M : Mem} {Q : R → Prop} (J : Nat → Env → Mem → Prop) (hn : n0 < 1000000000) (h0 : J n0 ρ M)
    (step : ∀ k ρ M, J k ρ M → WB c ρ M (kWh body (fun ρ M => ∃ k', k' < k ∧ J k' ρ M) Q ρ)) : WH c body fuel ρ M Q := wh_inv J hn h0 step
/-! ### comprehensions -/
def kcV (J : List D → Mem → Prop) (acc : List D) (x : Out) (M : Mem) : Prop := J (acc ++ [(val x M).1]) (val x M).2
def kcB (f : E) (ρ : Env) (J : List D → Mem → Prop) (acc : List D) (b : Bool) (M : Mem) : Prop := match b with | true => WE f ρ M (kcV J acc) | false => J acc M
def kcT (c : B) (f : E) (J : List D → Mem → Prop) (acc : List D) (M : Mem) (ρ : Env) : Prop := WB c ρ M (kcB f ρ J acc)
section
variable {c : B} {f : E} {J : List D → Mem → Prop} {acc : List D} {M : Mem} {ρ : Env} {d : D} {b : Ob}
theorem kcV_v : kcV J acc (.v d) M ↔ J (acc ++ [d]) M := Iff.rfl
theorem kcV_o : kcV J acc (.o b) M ↔ J (acc ++ [.ref M.length]) (M ++ [b]) := Iff.rfl
theorem kcB_t : kcB f ρ J acc true M ↔ WE f ρ M (kcV J acc) := Iff.rfl
theorem kcB_f : kcB f ρ J acc false M ↔ J acc M := Iff.rfl
theorem kcT_eq : kcT c f J acc M ρ ↔ WB c ρ M (kcB f ρ J acc) := Iff.rfl
end
theorem wc_inv {t : Tg} {c : B} {f : E} {lv : List (Nat × Ob)} {ρ : Env} {xs : List D} {M : Mem} {Q : List D → Mem → Prop} (J : Nat → List D → Mem → Prop) (h0 : J 0 [] M) (hl : ∀ i acc M, i ≤ xs.length → J i acc M → chk lv M)
    (step : ∀ i x acc M, xs[i]? = some x → J i acc M → WEnv (t.put x ρ) (kcT c f (J (i + 1)) acc M)) (done : ∀ acc M, J xs.length acc M → Q acc M) : WC t c f lv ρ xs M Q := by
  have h : ∀ (n k : Nat) (acc : List D) (M : Mem), n + k = xs.length → J k acc M → ∃ r M', cmpL t c f lv ρ (xs.drop k) M = some (r, M') ∧ Q (acc ++ r) M' := by
    intro n
    induction n with
    | zero =>
      intro k acc M e j
      rw [List.drop_eq_nil_of_le (by omega), cmpL, if_pos (hl k acc M (by omega) j)]
      exact ⟨_, _, rfl, by rw [List.append_nil]; exact done acc M (by rw [show xs.length = k by omega]; exact j)⟩
    | succ n ih =>
      intro k acc M e j
      have hk : k < xs.length := by omega
      rw [List.drop_eq_getElem_cons hk, cmpL, if_pos (hl k acc M (by omega) j)]
      obtain ⟨ρ1, e1, b, M1, e2, p⟩ := step k _ acc M (List.getElem?_eq_getElem hk) j
      simp only [e1, Option.bind_some, e2]
      cases b with
      | false => exact ih (k + 1) acc M1 (by omega) p
      | true =>
        obtain ⟨x, M2, e3, p⟩ := p
        obtain ⟨r, M', e4, q⟩ := ih (k + 1) _ _ (by omega) p
        simp only [e3, Option.bind_some, e4]
        exact ⟨_, _, rfl, by rw [List.append_assoc] at q; exact q⟩
  exact h xs.length 0 [] M (by omega) h0
theorem WC.mono {t : Tg} {c : B} {f : E} {lv : List (Nat × Ob)} {ρ : Env} {xs : List D} {M : Mem} {P Q : List D → Mem → Prop} (h : WC t c f lv ρ xs M P) (k : ∀ r M, P r M → Q r M) : WC t c f lv ρ xs M Q := by
  obtain ⟨r, M', e, p⟩ := h; exact ⟨r, M', e, k _ _ p⟩
/-- elements that change nothing -/
theorem wc_map {α : Type} (emb h : α → D) (ys : List α) {t : Tg} {f : E} {ρ : Env} {M : Mem} {Q : List D → Mem → Prop} (step : ∀ y ∈ ys, WEnv (t.put (emb y) ρ) fun ρ' => WE f ρ' M (kIs (h y) M)) (done : Q (ys.map h) M) : WC t bYes f [] ρ (ys.map emb) M Q := by
  refine wc_inv (fun i acc M' => acc = (ys.map h).take i ∧ M' = M) ⟨by simp, rfl⟩ (fun _ _ _ _ _ => chk_nil) (fun i x acc M' hx j => ?_) (fun acc M' j => ?_)
  · obtain ⟨rfl, rfl⟩ := j
    rw [List.getElem?_map] at hx
    obtain ⟨y, e1, rfl⟩ := Option.map_eq_some_iff.mp hx
    obtain ⟨hi, rfl⟩ := List.getElem?_eq_some_iff.mp e1
    obtain ⟨ρ', e2, r, M', e3, rfl, rfl⟩ := step ys[i] (List.getElem_mem hi)
    refine ⟨ρ', e2, true, M', rfl, _, _, e3, ?_, rfl⟩
    rw [List.take_add_one]
    simp [hi]
  · obtain ⟨rfl, rfl⟩ := j
    rw [List.take_of_length_le (by simp)]
    exact done
theorem wc_flt {α : Type} (emb h : α → D) (p : α → Bool) (ys : List α) {t : Tg} {c : B} {f : E} {ρ : Env} {M : Mem} {Q : List D → Mem → Prop}
    (step : ∀ y ∈ ys, WEnv (t.put (emb y) ρ) fun ρ' => c ρ' M = some (p y, M) ∧ (p y = true → WE f ρ' M (kIs (h y) M))) (done : Q ((ys.filter p).map h) M) : WC t c f [] ρ (ys.map emb) M Q := by
  refine wc_inv (fun i acc M' => acc = ((ys.take i).filter p).map h ∧ M' = M) ⟨by simp, rfl⟩ (fun _ _ _ _ _ => chk_nil) (fun i x acc M' hx j => ?_) (fun acc M' j => ?_)
  · obtain ⟨rfl, rfl⟩ := j
    rw [List.getElem?_map] at hx
    obtain ⟨y, e1, rfl⟩ := Option.map_eq_some_iff.mp hx
    obtain ⟨hi, rfl⟩ := List.getElem?_eq_some_iff.mp e1
    obtain ⟨ρ', e2, e4, h3⟩ := step ys[i] (List.getElem_mem hi)
    refine ⟨ρ', e2, _, M', e4, ?_⟩
    cases hp : p ys[i] with
    | true =>
      obtain ⟨r, M', e3, rfl, rfl⟩ := h3 hp
      refine ⟨_, _, e3, ?_, rfl⟩
      rw [List.take_add_one, List.filter_append, List.map_append]
      simp [hi, hp]
    | false =>
      refine ⟨?_, rfl⟩
      rw [List.take_add_one, List.filter_append, List.map_append]
      simp [hi, hp]
  · obtain ⟨rfl, rfl⟩ := j
    rw [List.length_map, List.take_length]
    exact done
theorem wb_eq {c : B} {ρ : Env} {M : Mem} {p : Bool} (h : WB c ρ M fun b M' => b = p ∧ M' = M) : c ρ M = some (p, M) := by
  obtain ⟨r, M', e, rfl, rfl⟩ := h; exact e
def wc := And.intro @kcV_v (And.intro @kcV_o (And.intro @kcB_t (And.intro @kcB_f (And.intro @kcT_eq (And.intro @kWh_t @kWh_f)))))
end Q
namespace Q
open PySem L2
section
variable {st : D} {ab : List Nat} {S : Mem → Prop} {nx : Fn}
/-- a draw -/
theorem Gen.w (g : Gen st ab S nx) {M : Mem} (h : S M) {n : Nat} (hn : 0 < n) (hn2 : n ≤ 100000) {K : PO2} (k : ∀ (r : Nat) (M' : Mem), r < n → S M' → Fr ab M M' → K (.v (.int (r : Int))) M') : WO (nx [st, .int (n : Int)] M) K := by
  obtain ⟨r, M', e, q, s, f⟩ := g.next M n h hn hn2
  exact ⟨_, _, e, k r M' q s f⟩
/-- a comprehension whose elements are made by draws -/
theorem Gen.wc {α : Type} (g : Gen st ab S nx) (emb : α → D) (P : Nat → α → Prop) {t : Tg} {f : E} {ρ : Env} {xs : List D} {M : Mem} {Q : List D → Mem → Prop} (h : S M)
    (hE : ∀ i x, xs[i]? = some x → WEnv (t.put x ρ) fun ρ' => ∀ M, S M → WE f ρ' M fun o M' => ∃ a, o = .v (emb a) ∧ P i a ∧ S M' ∧ Fr ab M M')
    (k : ∀ (ys : List α) (M' : Mem), ys.length = xs.length → (∀ i (hi : i < ys.length), P i ys[i]) → S M' → Fr ab M M' → Q (ys.map emb) M') : WC t bYes f [] ρ xs M Q := by
  refine wc_inv (fun i acc M' => ∃ ys : List α, acc = ys.map emb ∧ ys.length = i ∧ (∀ j (hj : j < ys.length), P j ys[j]) ∧ S M' ∧ Fr ab M M') ⟨[], rfl, rfl, fun j hj => by simp at hj, h, Fr.refl _ _⟩ (fun _ _ _ _ _ => chk_nil) (fun i x acc M1 hx j => ?_) (fun acc M1 j => ?_)
  · obtain ⟨ys, rfl, hl, hp, s1, f1⟩ := j
    obtain ⟨ρ', e1, h2⟩ := hE i x hx
    obtain ⟨o, M2, e2, a, rfl, pa, s2, f2⟩ := h2 M1 s1
    refine ⟨ρ', e1, true, M1, rfl, _, _, e2, ys ++ [a], by simp, by simp [hl], fun j hj => ?_, s2, f1.trans f2⟩
    simp only [List.length_append, List.length_cons, List.length_nil] at hj
    by_cases hj2 : j < ys.length
    · rw [List.getElem_append_left hj2]; exact hp j hj2
    · have : j = ys.length := by omega
      subst this
      rw [List.getElem_append_right (Nat.le_refl _)]
      simp only [Nat.sub_self, List.getElem_cons_zero]
      rw [hl]; exact pa
  · obtain ⟨ys, rfl, hl, hp, s1, f1⟩ := j
    exact k ys M1 hl hp s1 f1
/-- a comprehension of draws below n -/
theorem Gen.wds (g : Gen st ab S nx) {n : Nat} (hn : 0 < n) (hn2 : n ≤ 100000) {t : Tg} {f : E} {ρ : Env} {xs : List D} {M : Mem} {Q : List D → Mem → Prop} (h : S M)
    (hE : ∀ x ∈ xs, WEnv (t.put x ρ) fun ρ' => ∀ (M : Mem) (K : PO2), WO (nx [st, .int (n : Int)] M) K → WE f ρ' M K)
    (k : ∀ (w : List Nat) (M' : Mem), w.length = xs.length → (∀ r ∈ w, r < n) → S M' → Fr ab M M' → Q (nats w) M') : WC t bYes f [] ρ xs M Q := by
  refine g.wc (fun (r : Nat) => D.int (r : Int)) (fun _ r => r < n) h (fun i x hx => ?_) (fun ys M' hl hp s f => k ys M' hl (fun r hr => ?_) s f)
  · obtain ⟨ρ', e1, h2⟩ := hE x (List.mem_of_getElem? hx)
    refine ⟨ρ', e1, fun M s => h2 M _ (g.w s hn hn2 fun r M' q s' f' => ⟨r, rfl, q, s', f'⟩)⟩
  · obtain ⟨i, hi, rfl⟩ := List.getElem_of_mem hr
    exact hp i hi
/-- a def's end behind draws -/
theorem Gen.kFn (g : Gen st ab S nx) {M M' : Mem} {d : D} {K : PO2} (f : Fr ab M M') (s : S M') (hd : d.lo M.length) : Q.kFn M K (.rt (.v d) M') ↔ K (.v d) M' := by rw [kFn_rt, g.shutS f s hd]
theorem Gen.kFna (g : Gen st ab S nx) {M M' e : Mem} {d : D} {K : PO2} (f : Fr ab M M') (s : S M') (hd : d.lo M.length) : Q.kFn M K (.rt (.v d) (M' ++ e)) ↔ K (.v d) M' := by rw [kFn_rt, g.shut f s hd]
end
theorem mkT_rg {n : Nat} : mkT (upto 0 n) = .v (tN (List.range n)) := by rw [mkT, upto_nats]; rfl
theorem mkL_rg {n : Nat} : mkL (upto 0 n) = .o (.lst (nats (List.range n))) := by rw [mkL, upto_nats]
theorem src_ref {n : Nat} {xs : List D} {M : Mem} (h : M[n]? = some (.lst xs)) : srcOf (.v (.ref n)) M = some ⟨xs, [(n, .lst xs)]⟩ := by simp [srcOf, h]
theorem isT_ref {n : Nat} {xs : List D} {M : Mem} (h : M[n]? = some (.lst xs)) : isTyB "list" (.v (.ref n)) M = true := by simp [isTyB, h]
theorem isT_ol {xs : List D} {M : Mem} : isTyB "list" (.o (.lst xs)) M = true := by simp [isTyB]
theorem isT_str {s : Str} {M : Mem} : isTyB "str" (.v (.str s)) M = true := by simp [isTyB]
/-- the law's end -/
theorem law_of {F : Fn} (ns : List Int) (h : WO (F [.fl (ns.map .int)] []) fun r _ => r = .v (.bl true)) : ∃ m', F [.fl (ns.map .int)] [] = some (.v (.bl true), m') := by
  obtain ⟨r, M, e, rfl⟩ := h; exact ⟨M, e⟩
theorem law_ofT {F : Fn} (ns : List Int) {M0 : Mem} (h : WO (F [.fl (ns.map .int)] M0) fun r _ => r = .v (.bl true)) : ∃ m', F [.fl (ns.map .int)] M0 = some (.v (.bl true), m') := by
  obtain ⟨r, M, e, rfl⟩ := h; exact ⟨M, e⟩
theorem law_finT {M0 M : Mem} {b : Bool} (h : b = true) : kFn M0 (fun r _ => r = .v (.bl true)) (.rt (.v (.bl b)) M) := by
  subst h
  rw [kFn_rt]
  unfold shut
  split
  · simp [D.lo]
  · rfl
theorem law_fin {M : Mem} {b : Bool} (h : b = true) : kFn [] (fun r _ => r = .v (.bl true)) (.rt (.v (.bl b)) M) := by
  subst h
  rw [kFn_rt, law_shut _ _ (lo_bl 0 true ▸ trivial)]
end Q
namespace Q
open PySem L2
/-! ### the machine's rules for further things -/
def kMt2 (T : String) (f : F3) (b c : E) (ρ : Env) (Q : PO2) (x : Out) (M : Mem) : Prop := isTyB T x M = true ∧ WE b ρ M fun y M => WE c ρ M fun z M => WO (f x y z M) Q
def WK (o : Option (List (D × D))) (Q : List (D × D) → Prop) : Prop := ∃ s, o = some s ∧ Q s
def kKd (Q : PO2) (ds : List D) (M : Mem) : Prop := ∃ kvs, pairsK ds = some kvs ∧ kvs.length ≤ 15 ∧ Q (.o (.dct kvs)) M
def kKd2 (Q : PO2) (M : Mem) (kvs : List (D × D)) : Prop := kvs.length ≤ 15 ∧ Q (.o (.dct kvs)) M
def kKp1 (o i : E) (ρ : Env) (Q : R → Prop) (x : Out) (M : Mem) : Prop := WE o ρ (val x M).2 fun y M' => WE i ρ M' fun z M'' => WM (kstoF y z (val x M).1 M'') fun M3 => Q (.nx ρ M3)
def kKp2 (i : E) (d : D) (ρ : Env) (Q : R → Prop) (y : Out) (M : Mem) : Prop := WE i ρ M fun z M'' => WM (kstoF y z d M'') fun M3 => Q (.nx ρ M3)
def kKp3 (d : D) (ρ : Env) (Q : R → Prop) (y : Out) (z : Out) (M : Mem) : Prop := WM (kstoF y z d M) fun M3 => Q (.nx ρ M3)
def kNxM (ρ : Env) (Q : R → Prop) (M : Mem) : Prop := Q (.nx ρ M)
section
variable {a b c : E} {fr : A} {ρ : Env} {M : Mem} {Q : PO2} {QS : R → Prop} {f3 : F3} {x y z : Out} {d : D} {ds : List D} {kvs : List (D × D)}
theorem we_mt2 {T : String} : WE (eMt2 T f3 a b c) ρ M Q ↔ WE a ρ M (kMt2 T f3 b c ρ Q) := by
  unfold WE eMt2; rw [bex2]; refine exists_congr fun x => exists_congr fun y => and_congr_right fun _ => ?_
  rw [itn2]; unfold kMt2 WE; rw [bex2]; simp only [bex2]; exact Iff.rfl
theorem kMt2_eq {T : String} : kMt2 T f3 b c ρ Q x M ↔ isTyB T x M = true ∧ WE b ρ M (kDm2b f3 c ρ x Q) := Iff.rfl
theorem we_knew : WE eKnew ρ M Q ↔ Q (.o (.dct [])) M := sex2
theorem wk_some {P : List (D × D) → Prop} : WK (some kvs) P ↔ P kvs := ⟨fun ⟨_, e, h⟩ => by cases e; exact h, fun h => ⟨_, rfl, h⟩⟩
theorem we_kd : WE (eKd fr) ρ M Q ↔ WA fr ρ M (kKd Q) := by
  unfold WE WA eKd; rw [bex2]; refine exists_congr fun x => exists_congr fun y => and_congr_right fun _ => ?_
  unfold kKd
  constructor
  · rintro ⟨r, s, e, p⟩
    obtain ⟨kvs, e1, e2⟩ := bind_some e
    split at e2
    · rename_i h; cases e2; exact ⟨_, e1, h, p⟩
    · cases e2
  · rintro ⟨kvs, e1, h, p⟩
    exact ⟨_, _, by simp only at e1 ⊢; rw [e1, Option.bind_some, if_pos h], p⟩
theorem kKd_eq : kKd Q ds M ↔ WK (pairsK ds) (kKd2 Q M) := Iff.rfl
theorem kKd2_eq : kKd2 Q M kvs ↔ kvs.length ≤ 15 ∧ Q (.o (.dct kvs)) M := Iff.rfl
theorem ws_kput : WS (sKput a b c) ρ M QS ↔ WE a ρ M (kKp1 b c ρ QS) := by
  unfold WS WE sKput; rw [bex]; refine exists_congr fun x => exists_congr fun y => and_congr_right fun _ => ?_
  rw [bex]; unfold kKp1 WE; refine exists_congr fun x => exists_congr fun y => and_congr_right fun _ => ?_
  rw [bex]; refine exists_congr fun x => exists_congr fun y => and_congr_right fun _ => ?_
  rw [bexS]; unfold WM; refine exists_congr fun x => and_congr_right fun _ => sex1
theorem kKp1_v : kKp1 b c ρ QS (.v d) M ↔ WE b ρ M (kKp2 c d ρ QS) := Iff.rfl
theorem kKp1_o {o : Ob} : kKp1 b c ρ QS (.o o) M ↔ WE b ρ (M ++ [o]) (kKp2 c (.ref M.length) ρ QS) := Iff.rfl
theorem kKp2_eq : kKp2 c d ρ QS y M ↔ WE c ρ M (kKp3 d ρ QS y) := Iff.rfl
theorem kKp3_eq : kKp3 d ρ QS y z M ↔ WM (kstoF y z d M) (kNxM ρ QS) := Iff.rfl
theorem kNxM_eq : kNxM ρ QS M ↔ QS (.nx ρ M) := Iff.rfl
end
def wq := And.intro @we_mt2 (And.intro @kMt2_eq (And.intro @we_knew (And.intro @wk_some (And.intro @we_kd (And.intro @kKd_eq (And.intro @kKd2_eq (And.intro @ws_kput (And.intro @kKp1_v (And.intro @kKp1_o (And.intro @kKp2_eq (And.intro @kKp3_eq @kNxM_eq)))))))))))
end Q
namespace Q
open PySem L2
noncomputable def _law_begin_C1 (ρ : Env) (m : Mem) : Option (Bool × Mem) := (bOf (eBin geF (eUn absF (eVar 2)) (eBin powF (eC (.int 10)) (eC (.int 18))))) ρ m
theorem w__law_begin_C1 {ρ : Env} {M : Mem} {Q : Bool → Mem → Prop} : WB _law_begin_C1 ρ M Q ↔ WB (bOf (eBin geF (eUn absF (eVar 2)) (eBin powF (eC (.int 10)) (eC (.int 18))))) ρ M Q := Iff.rfl
noncomputable def _law_begin_E1 (ρ : Env) (m : Mem) : Option (Out × Mem) := (eUn absF (eVar 2)) ρ m
theorem w__law_begin_E1 {ρ : Env} {M : Mem} {Q : PO2} : WE _law_begin_E1 ρ M Q ↔ WE (eUn absF (eVar 2)) ρ M Q := Iff.rfl
noncomputable def _law_begin_F1 (ρ : Env) (m : Mem) : Option R := (sSet 1 (eBin modF (eBin addF (eBin addF (eBin mulF (eVar 1) (eC (.int 6364136223846793))) (eBin modF (eVar 2) (eBin powF (eC (.int 10)) (eC (.int 30))))) (eC (.int 1442695040888963))) (eC (.int 2305843009213693951)))) ρ m
theorem w__law_begin_F1 {ρ : Env} {M : Mem} {Q : R → Prop} : WS _law_begin_F1 ρ M Q ↔ WS (sSet 1 (eBin modF (eBin addF (eBin addF (eBin mulF (eVar 1) (eC (.int 6364136223846793))) (eBin modF (eVar 2) (eBin powF (eC (.int 10)) (eC (.int 30))))) (eC (.int 1442695040888963))) (eC (.int 2305843009213693951)))) ρ M Q := Iff.rfl
noncomputable def m__law_begin : Fn := fnD 1 3
    (sSeq (sSet 1 (eBin addF (eUn lenF (eVar 0)) (eC (.int 3))))
    (sSeq (sFor (iE (eSl (eVar 0) oNone (oSome (eC (.int 63))))) (gT (.nm 2)) _law_begin_F1)
    (sRet (eLst (aCons (eComp (iE (eSl (eVar 0) oNone (oSome (eC (.int 63))))) [2] (.nm 2) _law_begin_C1 _law_begin_E1) (aCons (eVar 1) aNil))))))
noncomputable def _law_next_T1 (ρ : Env) (m : Mem) : Option (Bool × Mem) := (bAnd (bOf (eBin neF (eBin ixF (eVar 0) (eC (.int 0))) (eLst aNil))) (bOf (eBin eqF (eBin ixF (eBin ixF (eVar 0) (eC (.int 0))) (eC (.int 0))) (eC (.int 0))))) ρ m
theorem w__law_next_T1 {ρ : Env} {M : Mem} {Q : Bool → Mem → Prop} : WB _law_next_T1 ρ M Q ↔ WB (bAnd (bOf (eBin neF (eBin ixF (eVar 0) (eC (.int 0))) (eLst aNil))) (bOf (eBin eqF (eBin ixF (eBin ixF (eVar 0) (eC (.int 0))) (eC (.int 0))) (eC (.int 0))))) ρ M Q := Iff.rfl
noncomputable def _law_next_W1 (ρ : Env) (m : Mem) : Option R := (sDo (eMt1 "list" popF (eBin ixF (eVar 0) (eC (.int 0))) (eC (.int 0)))) ρ m
theorem w__law_next_W1 {ρ : Env} {M : Mem} {Q : R → Prop} : WS _law_next_W1 ρ M Q ↔ WS (sDo (eMt1 "list" popF (eBin ixF (eVar 0) (eC (.int 0))) (eC (.int 0)))) ρ M Q := Iff.rfl
noncomputable def m__law_next : Fn := fnD 2 3
    (sSeq (sWhile _law_next_T1 _law_next_W1)
    (sSeq (sIf (bOf (eBin neF (eBin ixF (eVar 0) (eC (.int 0))) (eLst aNil))) (sSeq (sSet 2 (eBin modF (eBin ixF (eBin ixF (eVar 0) (eC (.int 0))) (eC (.int 0))) (eVar 1)))
    (sSeq (sPut (eBin divF (eBin ixF (eBin ixF (eVar 0) (eC (.int 0))) (eC (.int 0))) (eVar 1)) (gIx (eBin ixF (eVar 0) (eC (.int 0))) (eC (.int 0))))
    (sRet (eVar 2)))) sNil)
    (sSeq (sPut (eBin modF (eBin addF (eBin mulF (eBin ixF (eVar 0) (eC (.int 1))) (eC (.int 6364136223846793))) (eC (.int 1442695040888963))) (eC (.int 2305843009213693951))) (gIx (eVar 0) (eC (.int 1))))
    (sRet (eBin modF (eBin divF (eBin modF (eBin mulF (eBin ixF (eVar 0) (eC (.int 1))) (eBin ixF (eVar 0) (eC (.int 1)))) (eC (.int 2305843009213693921))) (eC (.int 65537))) (eVar 1))))))
/-! ### the state: a list of a list of cells and a seed -/
def S1 (a b : Nat) (M : Mem) : Prop := ∃ (cs : List Int) (s : Int), M[a]? = some (.lst [.ref b, .int s]) ∧ M[b]? = some (.lst (cs.map .int)) ∧ (∀ c ∈ cs, 0 ≤ c) ∧ cs.length ≤ 1000 ∧ 0 ≤ s ∧ s < 2305843009213693951 ∧ a ≠ b
theorem okL_ints (n : Nat) : ∀ cs : List Int, okL n (cs.map .int) = true
  | [] => by simp [okL]
  | c :: r => by simp [okL, okD, okL_ints n r]
theorem get_set {M : Mem} {b : Nat} {o o' : Ob} (h : M[b]? = some o) : (M.set b o')[b]? = some o' := by
  rw [List.getElem?_set_self (List.getElem?_eq_some_iff.mp h).1]
theorem fr_set {M : Mem} {b : Nat} {o : Ob} {ab : List Nat} (h : b ∈ ab) : Fr ab M (M.set b o) := ⟨by simp, fun i hi => by rw [List.getElem?_set_ne]; intro e; subst e; exact hi h⟩
theorem next_skip {a b n : Nat} {s : Int} : ∀ (cs : List Int) (M : Mem) (k : Nat) (x : Option D), cs.length < k → M[a]? = some (.lst [.ref b, .int s]) → M[b]? = some (.lst (cs.map .int)) → a ≠ b →
    ∃ ds M', (∀ c ∈ ds, c ∈ cs) ∧ ds.length ≤ cs.length ∧ (ds = [] ∨ ∃ c r, ds = c :: r ∧ c ≠ 0) ∧ M'[a]? = some (.lst [.ref b, .int s]) ∧ M'[b]? = some (.lst (ds.map .int)) ∧ Fr [a, b] M M' ∧
      whL _law_next_T1 _law_next_W1 k [some (.ref a), some (.int n), x] M = some (.nx [some (.ref a), some (.int n), x] M')
  | cs, M, 0, x, hk, _, _, _ => by omega
  | [], M, k + 1, x, hk, h1, h2, hab => ⟨[], M, by simp, by simp, .inl rfl, h1, h2, Fr.refl _ _, by
      simp [whL, _law_next_T1, _law_next_W1, ixF, seqOf, h1, h2, atI, ixN, neF, form, okD, okL, D.eqb, eqbL]⟩
  | c :: cs, M, k + 1, x, hk, h1, h2, hab => by
    by_cases hc : c = 0
    · subst hc
      have h3 : (M.set b (.lst (cs.map .int)))[a]? = some (.lst [.ref b, .int s]) := by rw [List.getElem?_set_ne (Ne.symm hab)]; exact h1
      obtain ⟨ds, M', q1, q5, q2, q3, q4, fr, e⟩ := next_skip (n := n) cs (M.set b (.lst (cs.map .int))) k x (by simp at hk; omega) h3 (get_set h2) hab
      refine ⟨ds, M', fun d hd => by simp [q1 d hd], by simp; omega, q2, q3, q4, (fr_set (by simp)).trans fr, ?_⟩
      rw [← e]
      simp [whL, _law_next_T1, _law_next_W1, ixF, seqOf, h1, h2, atI, ixN, neF, eqF, form, okD, okL, okL_ints, D.eqb, eqbL, isTyB, popF, seqIndex?, i63_of]
    · refine ⟨c :: cs, M, fun _ h => h, by simp, .inr ⟨c, cs, rfl, hc⟩, h1, h2, Fr.refl _ _, ?_⟩
      simp [whL, _law_next_T1, _law_next_W1, ixF, seqOf, h1, h2, atI, ixN, neF, eqF, form, okD, okL, okL_ints, D.eqb, eqbL, hc]
theorem next_draw {a b : Nat} (M : Mem) (n : Nat) (h : S1 a b M) (hn : 0 < n) (hn2 : n ≤ 100000) : ∃ (r : Nat) (M' : Mem), m__law_next [.ref a, .int (n : Int)] M = some (.v (.int (r : Int)), M') ∧ r < n ∧ S1 a b M' ∧ Fr [a, b] M M' := by
  obtain ⟨cs, s, h1, h2, hc, hcl, hs0, hs1, hab⟩ := h
  obtain ⟨ds, M1, q1, q5, q2, q3, q4, fr, e⟩ := next_skip (n := n) cs M fuel none (by show cs.length < 1000000000; omega) h1 h2 hab
  have hb1 : b < M1.length := (List.getElem?_eq_some_iff.mp q4).1
  have ha1 : a < M1.length := (List.getElem?_eq_some_iff.mp q3).1
  have lo : ∀ (M2 : Mem) (d : D), Fr [a, b] M M2 → (∀ (ds : List Int), M2[b]? = some (.lst (ds.map .int)) → ∀ s : Int, M2[a]? = some (.lst [.ref b, .int s]) → d.lo M.length → shut M (.v d) M2 = (.v d, M2)) := by
    intro M2 d f2 ds' g1 s' g2 hd
    have ok : okM M M2 := fun i o hi ho => by
      by_cases i1 : i = a
      · subst i1; rw [g2] at ho; cases ho; right; show loL _ _; simp; rw [← fr.1]; exact hb1
      · by_cases i2 : i = b
        · subst i2; rw [g1] at ho; cases ho; right; show loL _ _; rw [loL_iff]; intro d hd; simp at hd; obtain ⟨c, _, rfl⟩ := hd; simp
        · left; rw [← f2.2 i (by simp [i1, i2])]; exact ho
    unfold shut
    rw [if_pos ok]
    simp only [if_pos hd]
    rw [← f2.1]; simp
  rcases q2 with rfl | ⟨c, r, rfl, hc0⟩
  · -- by the seed
    have hs2 : (s * 6364136223846793 + 1442695040888963) % 2305843009213693951 < 2305843009213693951 := Int.emod_lt_of_pos _ (by omega)
    have hs3 : 0 ≤ (s * 6364136223846793 + 1442695040888963) % 2305843009213693951 := Int.emod_nonneg _ (by omega)
    generalize hS : (s * 6364136223846793 + 1442695040888963) % 2305843009213693951 = s2 at hs2 hs3
    have hr : 0 ≤ s2 * s2 % 2305843009213693921 / 65537 % (n : Int) := Int.emod_nonneg _ (by omega)
    have hr2 : s2 * s2 % 2305843009213693921 / 65537 % (n : Int) < (n : Int) := Int.emod_lt_of_pos _ (by omega)
    have g1 : (M1.set a (.lst [.ref b, .int s2]))[a]? = some (.lst [.ref b, .int s2]) := get_set q3
    have g2 : (M1.set a (.lst [.ref b, .int s2]))[b]? = some (.lst (([] : List Int).map .int)) := by rw [List.getElem?_set_ne hab]; exact q4
    have f2 : Fr [a, b] M (M1.set a (.lst [.ref b, .int s2])) := fr.trans (fr_set (by simp))
    refine ⟨(s2 * s2 % 2305843009213693921 / 65537 % (n : Int)).toNat, M1.set a (.lst [.ref b, .int s2]), ?_, by omega, ⟨[], s2, g1, g2, by simp, by simp, hs3, hs2, hab⟩, f2⟩
    rw [Int.toNat_of_nonneg hr]
    unfold m__law_next fnD
    simp only [List.length_cons, List.length_nil, if_true, List.map_cons, List.map_nil, List.replicate, List.cons_append, List.nil_append, sSeq, sWhile, e, Option.bind_some]
    have hm : mulOk s 6364136223846793 := .inr (by omega)
    have hm2 : mulOk s2 s2 := .inl (by omega)
    have hn' : (0 : Int) < n := by omega
    simp [ixF, seqOf, q3, q4, atI, ixN, neF, form, okD, okL, D.eqb, eqbL, stoF, hm, hS, g1, hm2, hn', hn]
    exact lo _ (.int _) f2 [] g2 s2 g1 (by simp)
  · have hc1 : 0 ≤ c := hc c (q1 c (by simp))
    have hr : 0 ≤ c % (n : Int) := Int.emod_nonneg _ (by omega)
    have hr2 : c % (n : Int) < (n : Int) := Int.emod_lt_of_pos _ (by omega)
    have g1 : (M1.set b (.lst ((c / (n : Int) :: r).map .int)))[b]? = some (.lst ((c / (n : Int) :: r).map .int)) := get_set q4
    have g2 : (M1.set b (.lst ((c / (n : Int) :: r).map .int)))[a]? = some (.lst [.ref b, .int s]) := by rw [List.getElem?_set_ne (Ne.symm hab)]; exact q3
    have f2 : Fr [a, b] M (M1.set b (.lst ((c / (n : Int) :: r).map .int))) := fr.trans (fr_set (by simp))
    refine ⟨(c % (n : Int)).toNat, M1.set b (.lst ((c / (n : Int) :: r).map .int)), ?_, by omega, ⟨c / (n : Int) :: r, s, g2, g1, fun d hd => ?_, by simp at q5 ⊢; omega, hs0, hs1, hab⟩, f2⟩
    · rw [Int.toNat_of_nonneg hr]
      unfold m__law_next fnD
      simp only [List.length_cons, List.length_nil, if_true, List.map_cons, List.map_nil, List.replicate, List.cons_append, List.nil_append, sSeq, sWhile, e, Option.bind_some]
      have hn' : (0 : Int) < n := by omega
      have hn3 : (n : Int) < 1073741824 := by omega
      have hn4 : n < 1073741824 := by omega
      simp [ixF, seqOf, q3, q4, atI, ixN, neF, form, okD, okL, okL_ints, D.eqb, eqbL, stoF, hn', hn2, hn]
      exact lo _ (.int _) f2 _ g1 s g2 (by simp)
    · rcases List.mem_cons.mp hd with rfl | hd
      · exact Int.ediv_nonneg hc1 (by omega)
      · exact hc d (q1 d (by simp [hd]))
theorem gen1 (a b : Nat) : Gen (.ref a) [a, b] (S1 a b) m__law_next where
  next := fun M n h hn hn2 => next_draw M n h hn hn2
  keep := fun M M' ⟨cs, s, h1, h2, h3⟩ hk => ⟨cs, s, by rw [hk a (by simp)]; exact h1, by rw [hk b (by simp)]; exact h2, h3⟩
  lo := fun M ⟨cs, s, h1, h2, h3⟩ i hi o ho => by
    simp at hi
    rcases hi with rfl | rfl
    · rw [h1] at ho; cases ho; show loL _ _; simp; exact (List.getElem?_eq_some_iff.mp h2).1
    · rw [h2] at ho; cases ho; show loL _ _; rw [loL_iff]; intro d hd; simp at hd; obtain ⟨c, _, rfl⟩ := hd; simp
  ins := fun M ⟨cs, s, h1, h2, h3⟩ i hi => by
    simp at hi
    rcases hi with rfl | rfl
    · exact (List.getElem?_eq_some_iff.mp h1).1
    · exact (List.getElem?_eq_some_iff.mp h2).1
  sto := fun M ⟨cs, s, h1, h2, h3⟩ => by simp; exact (List.getElem?_eq_some_iff.mp h1).1
theorem begin_seed {W : Option D} : ∀ (ns : List Int) (s : Int) (x : Option D) (M : Mem), 0 ≤ s → s < 2305843009213693951 →
    ∃ s' y, 0 ≤ s' ∧ s' < 2305843009213693951 ∧ forL (gT (.nm 2)) _law_begin_F1 [] (ns.map .int) [W, some (.int s), x] M = some (.nx [W, some (.int s'), y] M)
  | [], s, x, M, h0, h1 => ⟨s, x, h0, h1, by simp [forL_nil]⟩
  | n :: ns, s, x, M, h0, h1 => by
    have hs2 : (s * 6364136223846793 + n % 1000000000000000000000000000000 + 1442695040888963) % 2305843009213693951 < 2305843009213693951 := Int.emod_lt_of_pos _ (by omega)
    have hs3 : 0 ≤ (s * 6364136223846793 + n % 1000000000000000000000000000000 + 1442695040888963) % 2305843009213693951 := Int.emod_nonneg _ (by omega)
    obtain ⟨s', y, q0, q1, e⟩ := begin_seed (W := W) ns _ (some (.int n)) M hs3 hs2
    refine ⟨s', y, q0, q1, ?_⟩
    have hm : mulOk s 6364136223846793 := .inr (by omega)
    rw [List.map_cons, forL_cons, ← e]
    simp [_law_begin_F1, hm]
theorem begin_cells {W X : Option D} : ∀ (ns : List Int) (M : Mem), ∃ cs : List Int, (∀ c ∈ cs, 0 ≤ c) ∧ cs.length ≤ ns.length ∧ cmpL (.nm 2) _law_begin_C1 _law_begin_E1 [] [W, X, none] (ns.map .int) M = some (cs.map .int, M)
  | [], M => ⟨[], by simp, by simp, by simp [cmpL_nil]⟩
  | n :: ns, M => by
    obtain ⟨cs, h0, h1, e⟩ := begin_cells (W := W) (X := X) ns M
    by_cases hn : 1000000000000000000 ≤ (if n < 0 then -n else n)
    · refine ⟨(if n < 0 then -n else n) :: cs, fun c hc => ?_, by simp; omega, ?_⟩
      · rcases List.mem_cons.mp hc with rfl | hc
        · split <;> omega
        · exact h0 c hc
      · rw [List.map_cons, cmpL_cons]
        simp [_law_begin_C1, _law_begin_E1, hn, e]
    · refine ⟨cs, h0, by simp; omega, ?_⟩
      rw [List.map_cons, cmpL_cons]
      simp [_law_begin_C1, _law_begin_E1, hn, e]
theorem begin_eq (ns : List Int) (hl : ns.length ≤ 63) : ∃ M, m__law_begin [.fl (ns.map .int)] [] = some (.o (.lst [.ref 0, .int (M : Int × Mem).1]), M.2) ∧ S1 1 0 (M.2 ++ [.lst [.ref 0, .int M.1]]) ∧ M.2.length = 1 := by
  obtain ⟨s', y, q0, q1, e⟩ := begin_seed (W := some (.fl (ns.map .int))) (ns.take 63) ((ns.length : Int) + 3) none [] (by omega) (by omega)
  obtain ⟨cs, h0, h1, e2⟩ := begin_cells (W := some (.fl (ns.map .int))) (X := some (.int s')) (ns.take 63) []
  rw [List.take_of_length_le hl] at e e2 h1
  refine ⟨(s', [.lst (cs.map .int)]), ?_, ⟨cs, s', by simp, by simp, h0, by omega, q0, q1, by simp⟩, rfl⟩
  have hl2 : (ns.map D.int).take 63 = ns.map D.int := List.take_of_length_le (by simpa using hl)
  unfold m__law_begin fnD
  simp [sFor, len_fl, sl_fl, cut_to, src_ol, hl2, e, eComp, wipeE, e2]
  unfold shut
  rw [if_pos (show okM [] _ from fun i b hi => by simp at hi)]
  simp [Ob.lo]
theorem argBest_least {bt : Nat → Nat → Bool} (irr : ∀ i, bt i i = false) (tr : ∀ i j k, bt i j = true → bt j k = true → bt i k = true) : ∀ n, argBest bt n ≤ n ∧ ∀ i, i ≤ n → bt i (argBest bt n) = false := by
  intro n
  induction n with
  | zero => exact ⟨Nat.le_refl _, fun i hi => by have : i = 0 := by omega
                                                 subst this; exact irr _⟩
  | succ n ih =>
    obtain ⟨h1, h2⟩ := ih
    unfold argBest
    split
    · rename_i hb
      refine ⟨Nat.le_refl _, fun i hi => ?_⟩
      cases e : bt i (n + 1) with
      | false => rfl
      | true =>
        by_cases h : i = n + 1
        · subst h; rw [irr] at e; cases e
        · have := h2 i (by omega)
          rw [tr _ _ _ e hb] at this
          cases this
    · rename_i hb
      refine ⟨by omega, fun i hi => ?_⟩
      by_cases h : i = n + 1
      · subst h; simpa using hb
      · exact h2 i (by omega)
theorem pdL_map {α : Type} (f : α → D) : ∀ xs : List α, pdL (xs.map f) = xs.map fun x => (f x).pd
  | [] => rfl
  | x :: xs => by simp [pdL, pdL_map f xs]
theorem okL_map {α : Type} {n : Nat} (f : α → D) (h : ∀ x, okD n (f x) = true) : ∀ xs : List α, okL n (xs.map f) = true
  | [] => by simp [okL]
  | x :: xs => by rw [List.map_cons, okL, h, okL_map f h xs]; rfl
/-- a kind of data that can be put in order -/
structure Ordd {α : Type} (f : α → D) (lt : α → α → Prop) [DecidableRel lt] : Prop where
  pd : ∀ a b, PySem.W.dataLt (f a).pd (f b).pd = decide (lt a b)
  al : ∀ a b, PySem.W.alike (f a).pd (f b).pd = true
  ok : ∀ a, okD 60 (f a) = true
  nn : ∀ a, (f a).pd ≠ .none
  irr : ∀ a, ¬ lt a a
  tr : ∀ a b c, lt a b → lt b c → lt a c
theorem Ordd.cond {α : Type} {f : α → D} {lt : α → α → Prop} [DecidableRel lt] (O : Ordd f lt) {xs : List α} (hne : xs ≠ []) : okL 60 (xs.map f) = true ∧ xs.map f ≠ [] ∧ (∀ d ∈ pdL (xs.map f), ∀ e ∈ pdL (xs.map f), PySem.W.alike d e = true) ∧ (∀ d ∈ pdL (xs.map f), d ≠ .none) := by
  refine ⟨okL_map f O.ok xs, by simpa using hne, fun d hd e he => ?_, fun d hd => ?_⟩
  · rw [pdL_map] at hd he
    obtain ⟨a, _, rfl⟩ := List.mem_map.mp hd
    obtain ⟨b, _, rfl⟩ := List.mem_map.mp he
    exact O.al a b
  · rw [pdL_map] at hd
    obtain ⟨a, _, rfl⟩ := List.mem_map.mp hd
    exact O.nn a
theorem min1_of {α : Type} {f : α → D} {lt : α → α → Prop} [DecidableRel lt] (O : Ordd f lt) {xs : List α} (hne : xs ≠ []) {x : Out} {M : Mem} (hx : seqOf x M = some (xs.map f)) : ∃ a ∈ xs, (∀ b ∈ xs, ¬ lt b a) ∧ min1F x M = some (.v (f a), M) := by
  have hlen : 0 < xs.length := List.length_pos_iff.mpr hne
  have hget : ∀ i (h : i < xs.length), (pdL (xs.map f)).getD i .none = (f xs[i]).pd := fun i h => by
    rw [pdL_map, List.getD_eq_getElem?_getD, List.getElem?_map, List.getElem?_eq_getElem h]; rfl
  have key : ∀ n, n < xs.length → ∃ j, ∃ hj : j < xs.length, argBest (btmin (pdL (xs.map f))) n = j ∧ ∀ i (hi : i < xs.length), i ≤ n → ¬ lt xs[i] xs[j] := by
    intro n
    induction n with
    | zero => exact fun h => ⟨0, h, rfl, fun i hi h0 => by have : i = 0 := by omega
                                                           subst this; exact O.irr _⟩
    | succ n ih =>
      intro h
      obtain ⟨j, hj, e, hl⟩ := ih (by omega)
      have eb : btmin (pdL (xs.map f)) (n + 1) j = decide (lt xs[n + 1] xs[j]) := by
        unfold btmin; rw [hget _ h, hget _ hj, O.pd]
      unfold argBest
      rw [e, eb]
      by_cases hlt : lt xs[n + 1] xs[j]
      · refine ⟨n + 1, h, by simp [hlt], fun i hi hin hlt2 => ?_⟩
        by_cases hi2 : i = n + 1
        · subst hi2; exact O.irr _ hlt2
        · exact hl i hi (by omega) (O.tr _ _ _ hlt2 hlt)
      · refine ⟨j, hj, by simp [hlt], fun i hi hin hlt2 => ?_⟩
        by_cases hi2 : i = n + 1
        · subst hi2; exact hlt hlt2
        · exact hl i hi (by omega) hlt2
  obtain ⟨j, hj, e, hl⟩ := key (xs.length - 1) (by omega)
  refine ⟨xs[j], List.getElem_mem hj, fun b hb => ?_, ?_⟩
  · obtain ⟨i, hi, rfl⟩ := List.getElem_of_mem hb
    exact hl i hi (by omega)
  · unfold min1F
    rw [hx, Option.bind_some, if_pos (O.cond hne)]
    have : minI0 (pdL (xs.map f)) = j := by
      unfold minI0
      rw [pdL_map, List.length_map, ← pdL_map]
      exact e
    rw [this, List.getElem?_map, List.getElem?_eq_getElem hj]; rfl
theorem max1_of {α : Type} {f : α → D} {lt : α → α → Prop} [DecidableRel lt] (O : Ordd f lt) {xs : List α} (hne : xs ≠ []) {x : Out} {M : Mem} (hx : seqOf x M = some (xs.map f)) : ∃ a ∈ xs, (∀ b ∈ xs, ¬ lt a b) ∧ max1F x M = some (.v (f a), M) := by
  have hlen : 0 < xs.length := List.length_pos_iff.mpr hne
  have hget : ∀ i (h : i < xs.length), (pdL (xs.map f)).getD i .none = (f xs[i]).pd := fun i h => by
    rw [pdL_map, List.getD_eq_getElem?_getD, List.getElem?_map, List.getElem?_eq_getElem h]; rfl
  have key : ∀ n, n < xs.length → ∃ j, ∃ hj : j < xs.length, argBest (btmax (pdL (xs.map f))) n = j ∧ ∀ i (hi : i < xs.length), i ≤ n → ¬ lt xs[j] xs[i] := by
    intro n
    induction n with
    | zero => exact fun h => ⟨0, h, rfl, fun i hi h0 => by have : i = 0 := by omega
                                                           subst this; exact O.irr _⟩
    | succ n ih =>
      intro h
      obtain ⟨j, hj, e, hl⟩ := ih (by omega)
      have eb : btmax (pdL (xs.map f)) (n + 1) j = decide (lt xs[j] xs[n + 1]) := by
        unfold btmax; rw [hget _ h, hget _ hj, O.pd]
      unfold argBest
      rw [e, eb]
      by_cases hlt : lt xs[j] xs[n + 1]
      · refine ⟨n + 1, h, by simp [hlt], fun i hi hin hlt2 => ?_⟩
        by_cases hi2 : i = n + 1
        · subst hi2; exact O.irr _ hlt2
        · exact hl i hi (by omega) (O.tr _ _ _ hlt hlt2)
      · refine ⟨j, hj, by simp [hlt], fun i hi hin hlt2 => ?_⟩
        by_cases hi2 : i = n + 1
        · subst hi2; exact hlt hlt2
        · exact hl i hi (by omega) hlt2
  obtain ⟨j, hj, e, hl⟩ := key (xs.length - 1) (by omega)
  refine ⟨xs[j], List.getElem_mem hj, fun b hb => ?_, ?_⟩
  · obtain ⟨i, hi, rfl⟩ := List.getElem_of_mem hb
    exact hl i hi (by omega)
  · unfold max1F
    rw [hx, Option.bind_some, if_pos (O.cond hne)]
    have : maxI0 (pdL (xs.map f)) = j := by
      unfold maxI0
      rw [pdL_map, List.length_map, ← pdL_map]
      exact e
    rw [this, List.getElem?_map, List.getElem?_eq_getElem hj]; rfl
theorem ordd_nat : Ordd (fun n : Nat => D.int (n : Int)) (· < ·) where
  pd := fun a b => by
    simp only [D.pd, PySem.W.dataLt_int]
    rw [Bool.eq_iff_iff, decide_eq_true_eq, decide_eq_true_eq]; omega
  al := fun a b => by simp [D.pd, PySem.W.alike]
  ok := fun a => by simp [okD]
  nn := fun a => by simp [D.pd]
  irr := fun a => by omega
  tr := fun a b c => by omega
theorem leD_eq (a b : D) : leD a b = !PySem.W.dataLt b.pd a.pd := rfl
theorem loL_map' {α : Type} {n : Nat} {f : α → D} (h : ∀ x, (f x).lo n) : ∀ xs : List α, loL n (xs.map f)
  | [] => by simp
  | x :: xs => by simp [h x, loL_map' h xs]
theorem srt_list {α : Type} {f : α → D} {lt : α → α → Prop} [DecidableRel lt] (O : Ordd f lt) (tri : ∀ a b, ¬ lt a b → ¬ lt b a → a = b) {xs ys : List α} (hp : ys.Perm xs) (hs : ys.Pairwise fun a b => ¬ lt b a) : (xs.map f).mergeSort leD = ys.map f := by
  have e : (xs.map f).mergeSort leD = (xs.mergeSort fun a b => !decide (lt b a)).map f := (List.map_mergeSort (r := fun a b => !decide (lt b a)) (s := leD) (f := f) (l := xs) (fun a _ b _ => by rw [leD_eq, O.pd])).symm
  rw [e]
  have hs2 := List.pairwise_mergeSort (le := fun a b => !decide (lt b a)) (fun a b c h1 h2 => by
    simp only [Bool.not_eq_true', decide_eq_false_iff_not] at h1 h2 ⊢
    intro h
    by_cases hab : lt a b
    · exact h2 (O.tr _ _ _ h hab)
    · have := tri a b hab h1
      subst this
      exact h2 h) (fun a b => by
    simp only [Bool.or_eq_true, Bool.not_eq_true', decide_eq_false_iff_not]
    by_cases hab : lt b a
    · right; intro h; exact O.irr _ (O.tr _ _ _ h hab)
    · left; exact hab) xs
  congr 1
  refine List.Perm.eq_of_pairwise (le := fun a b => ¬ lt b a) (fun a b _ _ h1 h2 => tri a b h2 h1) (hs2.imp fun h => by simpa using h) hs ((List.mergeSort_perm _ _).trans hp.symm)
theorem srt_ok {α : Type} {f : α → D} {lt : α → α → Prop} [DecidableRel lt] (O : Ordd f lt) (hk : (∀ a, ∃ x r, (f a).pd = .tuple (x :: r)) ∨ ∀ a, (f a).pd ≠ .none ∧ ∀ xs, (f a).pd ≠ .tuple xs) {xs : List α} (hf : fits xs.length) : SrtOk (xs.map f) := by
  refine ⟨okL_map f O.ok xs, fun d hd e he => ?_, ?_, by rw [List.length_map]; exact hf⟩
  · rw [List.map_map] at hd he
    obtain ⟨a, _, rfl⟩ := List.mem_map.mp hd
    obtain ⟨b, _, rfl⟩ := List.mem_map.mp he
    exact O.al a b
  · rcases hk with hk | hk
    · left; intro d hd
      rw [List.map_map] at hd
      obtain ⟨a, _, rfl⟩ := List.mem_map.mp hd
      exact hk a
    · right; intro d hd
      rw [List.map_map] at hd
      obtain ⟨a, _, rfl⟩ := List.mem_map.mp hd
      exact hk a
theorem srtF_of {α : Type} {f : α → D} {lt : α → α → Prop} [DecidableRel lt] (O : Ordd f lt) (tri : ∀ a b, ¬ lt a b → ¬ lt b a → a = b) (hk : (∀ a, ∃ x r, (f a).pd = .tuple (x :: r)) ∨ ∀ a, (f a).pd ≠ .none ∧ ∀ xs, (f a).pd ≠ .tuple xs) {xs ys : List α} (hf : xs.length ≤ 100000) (hp : ys.Perm xs) (hs : ys.Pairwise fun a b => ¬ lt b a) {x : Out} {M : Mem} (hx : seqOf x M = some (xs.map f)) : srtF x M = some (.o (.lst (ys.map f)), M) := by
  unfold srtF
  rw [hx, Option.bind_some, if_pos (srt_ok O hk (fits_of hf)), srt_list O tri hp hs]
theorem srdF_of {α : Type} {f : α → D} {lt : α → α → Prop} [DecidableRel lt] (O : Ordd f lt) (tri : ∀ a b, ¬ lt a b → ¬ lt b a → a = b) (hk : (∀ a, ∃ x r, (f a).pd = .tuple (x :: r)) ∨ ∀ a, (f a).pd ≠ .none ∧ ∀ xs, (f a).pd ≠ .tuple xs) {xs ys : List α} (hf : xs.length ≤ 100000) (hp : ys.Perm xs) (hs : ys.Pairwise fun a b => ¬ lt b a) {x : Out} {M : Mem} {kvs : List (D × D)} (hx : dctOf x M = some kvs) (hkv : kvs.map (·.1) = xs.map f) : srdF x M = some (.o (.lst (ys.map f)), M) := by
  unfold srdF
  rw [hx, Option.bind_some, hkv, if_pos (srt_ok O hk (fits_of hf)), srt_list O tri hp hs]
/-! ### a def's own objects behind the memory, while draws go on -/
def FrA (ab : List Nat) (M M' : Mem) : Prop := M.length ≤ M'.length ∧ ∀ i : Nat, i < M.length → i ∉ ab → M'[i]? = M[i]?
/-- what a def holds of its own stays -/
def Own (M M' M'' : Mem) : Prop := M''.length = M'.length ∧ ∀ q : Nat, M.length ≤ q → M''[q]? = M'[q]?
theorem Own.refl (M M' : Mem) : Own M M' M' := ⟨rfl, fun _ _ => rfl⟩
theorem Own.trans {M M1 M2 M3 : Mem} (h : Own M M1 M2) (k : Own M M2 M3) : Own M M1 M3 := ⟨k.1.trans h.1, fun q hq => (k.2 q hq).trans (h.2 q hq)⟩
structure Loc (ab : List Nat) (S : Mem → Prop) (M M' : Mem) : Prop where
  s0 : S M
  s : S M'
  fr : FrA ab M M'
section
variable {st : D} {ab : List Nat} {S : Mem → Prop} {nx : Fn} {M M' : Mem}
theorem Loc.new (h : S M) : Loc ab S M M := ⟨h, h, Nat.le_refl _, fun _ _ _ => rfl⟩
theorem Loc.le (L : Loc ab S M M') : M.length ≤ M'.length := L.fr.1
theorem Loc.step (g : Gen st ab S nx) (L : Loc ab S M M') {M2 : Mem} (s2 : S M2) (f : Fr ab M' M2) : Loc ab S M M2 ∧ Own M M' M2 :=
  ⟨⟨L.s0, s2, by rw [f.1]; exact L.fr.1, fun i hi hab => by rw [f.2 i hab]; exact L.fr.2 i hi hab⟩, f.1, fun q hq => f.2 q fun hab => absurd (g.ins M L.s0 q hab) (by omega)⟩
theorem Loc.w (g : Gen st ab S nx) (L : Loc ab S M M') {n : Nat} (hn : 0 < n) (hn2 : n ≤ 100000) {K : PO2} (k : ∀ (r : Nat) (M2 : Mem), r < n → Loc ab S M M2 → Own M M' M2 → K (.v (.int (r : Int))) M2) : WO (nx [st, .int (n : Int)] M') K :=
  g.w L.s hn hn2 fun r M2 hr s2 f2 => let ⟨a, b⟩ := L.step g s2 f2; k r M2 hr a b
theorem Loc.app (g : Gen st ab S nx) (L : Loc ab S M M') (e : Mem) : Loc ab S M (M' ++ e) := ⟨L.s0, g.app L.s e, by simp; have := L.fr.1; omega, fun i hi hab => by rw [List.getElem?_append_left (by have := L.fr.1; omega)]; exact L.fr.2 i hi hab⟩
theorem Loc.set (g : Gen st ab S nx) (L : Loc ab S M M') {q : Nat} (hq : M.length ≤ q) (o : Ob) : Loc ab S M (M'.set q o) :=
  ⟨L.s0, g.keep M' _ L.s fun i hi => by have := g.ins M L.s0 i hi; rw [List.getElem?_set_ne (by omega)], by simp; exact L.fr.1, fun i hi hab => by rw [List.getElem?_set_ne (by omega)]; exact L.fr.2 i hi hab⟩
theorem Loc.split (g : Gen st ab S nx) (L : Loc ab S M M') : ∃ M1 e, M' = M1 ++ e ∧ S M1 ∧ Fr ab M M1 := by
  have hl := L.fr.1
  refine ⟨M'.take M.length, M'.drop M.length, (List.take_append_drop _ _).symm, g.keep M' _ L.s fun i hi => ?_, ?_, fun i hi => ?_⟩
  · rw [List.getElem?_take_of_lt (g.ins M L.s0 i hi)]
  · rw [List.length_take]; omega
  · by_cases hj : i < M.length
    · rw [List.getElem?_take_of_lt hj, L.fr.2 i hj hi]
    · rw [List.getElem?_eq_none (by simp; omega), List.getElem?_eq_none (by omega)]
theorem Loc.kFn (g : Gen st ab S nx) (L : Loc ab S M M') {d : D} {K : PO2} (hd : d.lo M.length) (k : ∀ M1, S M1 → Fr ab M M1 → K (.v d) M1) : Q.kFn M K (.rt (.v d) M') := by
  obtain ⟨M1, e, rfl, s1, f1⟩ := L.split g
  rw [g.kFna f1 s1 hd]
  exact k M1 s1 f1
theorem Loc.kFnR (g : Gen st ab S nx) (L : Loc ab S M M') {b : Ob} {q : Nat} {K : PO2} (hq : M.length ≤ q) (he : M'[q]? = some b) (hd : b.lo M.length) (k : ∀ M1, S M1 → Fr ab M M1 → K (.o b) M1) : Q.kFn M K (.rt (.v (.ref q)) M') := by
  obtain ⟨M1, e, rfl, s1, f1⟩ := L.split g
  rw [kFn_rt, g.shutL f1 s1 hq he hd]
  exact k M1 s1 f1
theorem Loc.kFnO (g : Gen st ab S nx) (L : Loc ab S M M') {b : Ob} {K : PO2} (hd : b.lo M.length) (k : ∀ M1, S M1 → Fr ab M M1 → K (.o b) M1) : Q.kFn M K (.rt (.o b) M') := by
  obtain ⟨M1, e, rfl, s1, f1⟩ := L.split g
  rw [kFn_rt, g.shutO f1 s1 hd]
  exact k M1 s1 f1
/-- a tuple with a place of its own in it is handed back: all is kept -/
theorem Loc.kFnT (g : Gen st ab S nx) (L : Loc ab S M M') {xs : List D} {K : PO2} (hd : ¬ loL M.length xs) (k : K (.v (.tup xs)) M') : Q.kFn M K (.rt (.v (.tup xs)) M') := by
  obtain ⟨M1, e, rfl, s1, f1⟩ := L.split g
  rw [kFn_rt]
  unfold Q.shut
  rw [if_pos (g.okM f1 s1 e)]
  have : ¬ D.lo M.length (.tup xs) := by simpa using hd
  simp only [if_neg this]
  exact k
/-- draws that fill a list -/
theorem Loc.wds (g : Gen st ab S nx) (L : Loc ab S M M') {n : Nat} (hn : 0 < n) (hn2 : n ≤ 100000) {t : Tg} {f : E} {ρ : Env} {xs : List D} {Q : List D → Mem → Prop}
    (hE : ∀ x ∈ xs, WEnv (t.put x ρ) fun ρ' => ∀ (M : Mem) (K : PO2), WO (nx [st, .int (n : Int)] M) K → WE f ρ' M K)
    (k : ∀ (w : List Nat) (M2 : Mem), w.length = xs.length → (∀ r ∈ w, r < n) → Loc ab S M M2 → Own M M' M2 → Q (nats w) M2) : WC t bYes f [] ρ xs M' Q :=
  g.wds hn hn2 L.s hE fun w M2 hw hr s2 f2 => let ⟨a, b⟩ := L.step g s2 f2; k w M2 hw hr a b
end
theorem get_app {M : Mem} {e : Mem} {q : Nat} {o : Ob} (h : M[q]? = some o) : (M ++ e)[q]? = some o := by rw [List.getElem?_append_left (List.getElem?_eq_some_iff.mp h).1]; exact h
theorem get_lt {M : Mem} {q : Nat} {o : Ob} (h : M[q]? = some o) : q < M.length := (List.getElem?_eq_some_iff.mp h).1
theorem get_put {M : Mem} {q : Nat} {o o' : Ob} (h : M[q]? = some o) : (M.set q o')[q]? = some o' := by rw [List.getElem?_set_self (get_lt h)]
theorem get_other {M : Mem} {q p : Nat} {o o' : Ob} (h : M[q]? = some o) (hp : p ≠ q) : (M.set p o')[q]? = some o := by rw [List.getElem?_set_ne hp]; exact h
theorem Own.get {M M1 M2 : Mem} (h : Own M M1 M2) {q : Nat} {o : Ob} (hq : M.length ≤ q) (e : M1[q]? = some o) : M2[q]? = some o := by rw [h.2 q hq]; exact e
theorem app_ref {M : Mem} {q : Nat} {xs : List D} {d : D} (h : M[q]? = some (.lst xs)) (hl : xs.length ≤ 90000) : appF (.v (.ref q)) (.v d) M = some (.v .non, M.set q (.lst (xs ++ [d]))) := by
  have hf : fits (xs.length + 1) := fits_of (by omega)
  simp only [appF, h, if_pos hf, val_v]
theorem app_refO {M : Mem} {q : Nat} {xs : List D} {o : Ob} (h : M[q]? = some (.lst xs)) (hl : xs.length ≤ 90000) : appF (.v (.ref q)) (.o o) M = some (.v .non, (M ++ [o]).set q (.lst (xs ++ [.ref M.length]))) := by
  have hf : fits (xs.length + 1) := fits_of (by omega)
  simp only [appF, h, if_pos hf, val_o]
theorem snocRec {α : Type} {P : List α → Prop} (nil : P []) (snoc : ∀ (l : List α) (x : α), P l → P (l ++ [x])) (l : List α) : P l := by
  have : ∀ r : List α, P r.reverse := fun r => by
    induction r with
    | nil => exact nil
    | cons a r ih => rw [List.reverse_cons]; exact snoc _ _ ih
  have h := this l.reverse
  rw [List.reverse_reverse] at h
  exact h
/-! ### lists of numbers -/
theorem enum_nats : ∀ (w : List Nat) (i : Nat), enumD i (nats w) = (w.zipIdx i).map fun p => D.par [.int ((p.2 : Nat) : Int), .int ((p.1 : Nat) : Int)]
  | [], _ => by simp [nats, enumD]
  | a :: w, i => by
    have := enum_nats w (i + 1)
    simp only [nats] at this
    simp [nats, enumD, this]
theorem enum_ref {n : Nat} {w : List Nat} {M : Mem} (h : M[n]? = some (.lst (nats w))) : enumOf (.v (.ref n)) M = some ⟨(w.zipIdx).map fun p => D.par [.int ((p.2 : Nat) : Int), .int ((p.1 : Nat) : Int)], [(n, .lst (nats w))]⟩ := by
  simp only [enumOf, lsrc, h, Option.bind_some]
  rw [enum_nats]
theorem ix_first {n : Nat} {w : List Nat} {M : Mem} (h : M[n]? = some (.lst (nats w))) (hw : 0 < w.length) : ixF (.v (.ref n)) (.v (.int 0)) M = some (.v (.int ((w[0] : Nat) : Int)), M) := by
  simp only [ixF, seqOf, h, Option.bind_some]
  rw [show (0 : Int) = ((0 : Nat) : Int) from rfl, atI_nats w 0 hw]; rfl
theorem ix_last {n : Nat} {w : List Nat} {M : Mem} (h : M[n]? = some (.lst (nats w))) (hw : 0 < w.length) : ixF (.v (.ref n)) (.v (.int (-1))) M = some (.v (.int ((w[w.length - 1] : Nat) : Int)), M) := by
  have e : ixN (nats w).length (-1) = some (w.length - 1) := by unfold ixN; simp; omega
  simp only [ixF, seqOf, h, Option.bind_some, atI, e]
  simp [nats, List.getElem?_map, List.getElem?_eq_getElem (show w.length - 1 < w.length by omega)]
theorem neg_one (M : Mem) : negF (.v (.int 1)) M = some (.v (.int (-1)), M) := rfl
theorem ixn_at {n : Nat} {w : List Nat} {M : Mem} (h : M[n]? = some (.lst (nats w))) {i : Nat} (hi : i < w.length) : ixF (.v (.ref n)) (.v (.int (i : Int))) M = some (.v (.int ((w[i] : Nat) : Int)), M) := by
  simp only [ixF, seqOf, h, Option.bind_some]
  rw [atI_nats w i hi]; rfl
theorem sto_at {M e : Mem} {n : Nat} (hn : n = M.length) {w : List Nat} {i x : Nat} (hi : i < w.length) : stoF (.v (.ref n)) (.v (.int (i : Int))) (.int (x : Int)) (M ++ .lst (nats w) :: e) = some (M ++ .lst (nats (w.set i x)) :: e) := by
  subst hn
  have hg : (M ++ .lst (nats w) :: e)[M.length]? = some (.lst (nats w)) := by rw [gm0]; rfl
  simp only [stoF, hg]
  have : ixN (nats w).length (i : Int) = some i := by unfold ixN; simp; omega
  rw [this, Option.map_some, sm0]
  simp [nats, List.map_set]
theorem erase_map {α β : Type} (f : α → β) : ∀ (l : List α) (i : Nat), (l.map f).eraseIdx i = (l.eraseIdx i).map f
  | [], _ => rfl
  | _ :: _, 0 => rfl
  | a :: l, i + 1 => by simp [List.eraseIdx, erase_map f l i]
theorem pop_at {M : Mem} {q : Nat} {lf : List Nat} (h : M[q]? = some (.lst (nats lf))) {j : Nat} (hj : j < lf.length) (hb : lf.length ≤ 1000) : popF (.v (.ref q)) (.v (.int (j : Int))) M = some (.v (.int ((lf[j] : Nat) : Int)), M.set q (.lst (nats (lf.eraseIdx j)))) := by
  have h63 : i63 (j : Int) := i63_of (by omega) (by omega)
  have es : seqIndex? (j : Int) (nats lf).length = some j := by unfold seqIndex?; simp; omega
  simp only [popF, h, if_pos h63, es, Option.bind_some]
  have : (nats lf)[j]? = some (.int ((lf[j] : Nat) : Int)) := by simp [nats, hj]
  rw [this]
  simp [nats, erase_map]
theorem wc_mapL3 {α : Type} (emb h : α → D) (ys : List α) {t : Tg} {f : E} {lv : List (Nat × Ob)} {ρ : Env} {M : Mem} {Q : List D → Mem → Prop} (hc : chk lv M) (step : ∀ y ∈ ys, WEnv (t.put (emb y) ρ) fun ρ' => WE f ρ' M (kIs (h y) M)) (done : Q (ys.map h) M) : WC t bYes f lv ρ (ys.map emb) M Q := by
  refine wc_inv (fun i acc M' => acc = (ys.map h).take i ∧ M' = M) ⟨by simp, rfl⟩ (fun _ _ _ _ j => by rw [j.2]; exact hc) (fun i x acc M' hx j => ?_) (fun acc M' j => ?_)
  · obtain ⟨rfl, rfl⟩ := j
    rw [List.getElem?_map] at hx
    obtain ⟨y, e1, rfl⟩ := Option.map_eq_some_iff.mp hx
    obtain ⟨hi, rfl⟩ := List.getElem?_eq_some_iff.mp e1
    obtain ⟨ρ', e2, r, M', e3, rfl, rfl⟩ := step ys[i] (List.getElem_mem hi)
    refine ⟨ρ', e2, true, M', rfl, _, _, e3, ?_, rfl⟩
    rw [List.take_add_one]
    simp [hi]
  · obtain ⟨rfl, rfl⟩ := j
    rw [List.length_map, List.take_of_length_le (by simp)]
    exact done
theorem rep_flat {α : Type} (x : α) : ∀ n : Nat, (List.replicate n [x]).flatten = List.replicate n x
  | 0 => rfl
  | n + 1 => by simp [List.replicate_succ, rep_flat x n]
theorem eqb_int (i j : Int) : (D.int i).eqb (.int j) = decide (i = j) := by simp [D.eqb]
theorem any_nats (w : List Nat) (x : Nat) : ((nats w).any fun d => d.eqb (.int (x : Int))) = decide (x ∈ w) := by
  induction w with
  | nil => simp [nats]
  | cons a w ih =>
    simp only [nats, List.map_cons, List.any_cons, eqb_int] at ih ⊢
    rw [ih]
    by_cases h : a = x
    · subst h; simp
    · have : ¬ (a : Int) = (x : Int) := by omega
      have h' : ¬ x = a := fun z => h z.symm
      simp [this, h']
theorem in_list {M : Mem} {q : Nat} {w : List Nat} (h : M[q]? = some (.lst (nats w))) (x : Nat) (neg : Bool) : inF neg (.v (.int (x : Int))) (.v (.ref q)) M = some (.v (.bl (if neg then !decide (x ∈ w) else decide (x ∈ w))), M) := by
  have hf : flatD (.int (x : Int)) = true ∧ (nats w).all flatD = true := ⟨rfl, by simp [nats, flatD]⟩
  simp only [inF, form, seqOf, h, Option.bind_some, if_pos hf, any_nats]
theorem findIdx_nl (w : List Nat) (x : Nat) (h : x ∈ w) : ((nats w).findIdx? fun d => d.eqb (.int (x : Int))) = some (w.idxOf x) := by
  induction w with
  | nil => simp at h
  | cons a w ih =>
    simp only [nats, List.map_cons, List.findIdx?_cons, eqb_int]
    by_cases hax : a = x
    · subst hax; simp
    · have : ¬ (a : Int) = (x : Int) := by omega
      have hw : x ∈ w := by
        rcases List.mem_cons.mp h with h | h
        · exact absurd h.symm hax
        · exact h
      simp only [this, decide_false]
      have := ih hw
      simp only [nats] at this
      have hb : (a == x) = false := by simpa using hax
      simp [this, List.idxOf_cons, hb]
theorem okL_nats (n : Nat) (w : List Nat) : okL n (nats w) = true := by
  induction w with
  | nil => simp [nats, okL]
  | cons a w ih => simp only [nats, List.map_cons] at ih ⊢; rw [okL, ih]; simp [okD]
theorem idx_list {M : Mem} {q : Nat} {w : List Nat} (h : M[q]? = some (.lst (nats w))) {x : Nat} (hx : x ∈ w) : idxLF (.v (.ref q)) (.v (.int (x : Int))) M = some (.v (.int ((w.idxOf x : Nat) : Int)), M) := by
  have hc : okL 63 (nats w) = true ∧ okD 64 (.int (x : Int)) = true := ⟨okL_nats _ _, by simp [okD]⟩
  simp only [idxLF, lstOf, h, Option.bind_some, if_pos hc, findIdx_nl w x hx, Option.map_some]
theorem sl_ref {M : Mem} {q : Nat} {xs : List D} (h : M[q]? = some (.lst xs)) (lo hi : Option Int) : slF (.v (.ref q)) lo hi M = some (.o (.lst (cutD xs lo hi)), M) := by simp [slF, seqOf, h]
theorem add_ol {a b : List D} (h : a.length + b.length ≤ 90000) (M : Mem) : addF (.o (.lst a)) (.o (.lst b)) M = some (.o (.lst (a ++ b)), M) := by
  have hf : fits (a.length + b.length) := fits_of (by omega)
  simp only [addF, lstOf, Option.bind_some, if_pos hf]
theorem getD_get {w : List Nat} {i : Nat} (h : i < w.length) : w.getD i 0 = w[i] := by simp [List.getD, h]
theorem stp_rows {m : List (List Nat)} {r a : Nat} (hr : r < m.length) (ha : a < m[r].length) : stp m r a = m[r][a] := by
  unfold stp; simp [List.getD, List.getElem?_eq_getElem hr, List.getElem?_eq_getElem ha]
theorem ix_tup {ds : List D} {i : Nat} {d : D} (h : ds[i]? = some d) (M : Mem) : ixF (.v (.tup ds)) (.v (.int (i : Int))) M = some (.v d, M) := by
  obtain ⟨hi, e⟩ := List.getElem?_eq_some_iff.mp h
  simp only [ixF, seqOf, Option.bind_some]
  rw [atI_get _ _ hi, e]; rfl
theorem sto_ref {M : Mem} {q : Nat} {w : List Nat} {i x : Nat} (h : M[q]? = some (.lst (nats w))) (hi : i < w.length) : stoF (.v (.ref q)) (.v (.int (i : Int))) (.int (x : Int)) M = some (M.set q (.lst (nats (w.set i x)))) := by
  have : ixN (nats w).length (i : Int) = some i := by unfold ixN; simp; omega
  simp only [stoF, h, this, Option.map_some]
  simp [nats, List.map_set]
theorem isi_bb (b : Bool) (M : Mem) : isiF .bool (.v (.bl b)) M = some (.v (.bl true), M) := by simp [isiF, tyOf]; decide
theorem ne_bb (a b : Bool) (M : Mem) : neF (.v (.bl a)) (.v (.bl b)) M = some (.v (.bl (!decide (a = b))), M) := by cases a <;> cases b <;> simp [neF, form, okD, D.eqb]
noncomputable def m__law_phased : Fn := fnD 5 6
    (sSeq (sSet 5 (eBin modF (eBin addF (eBin subF (eVar 4) (eVar 1)) (eC (.int 1))) (eVar 3)))
    (sRet (eBin addF (eBin addF (eVar 1) (eVar 5)) (eBin mulF (eVar 3) (eCall m__law_next (aCons (eVar 0) (aCons (eBin addF (eBin divF (eBin subF (eBin subF (eVar 2) (eC (.int 1))) (eVar 5)) (eVar 3)) (eC (.int 1))) aNil)))))))
noncomputable def _law_web_E1 (ρ : Env) (m : Mem) : Option (Out × Mem) := (eCall m__law_next (aCons (eVar 0) (aCons (eVar 3) aNil))) ρ m
theorem w__law_web_E1 {ρ : Env} {M : Mem} {Q : PO2} : WE _law_web_E1 ρ M Q ↔ WE (eCall m__law_next (aCons (eVar 0) (aCons (eVar 3) aNil))) ρ M Q := Iff.rfl
noncomputable def _law_web_E2 (ρ : Env) (m : Mem) : Option (Out × Mem) := (eCall m__law_phased (aCons (eVar 0) (aCons (eBin ixF (eVar 5) (eVar 8)) (aCons (eVar 9) (aCons (eVar 10) (aCons (eVar 11) aNil)))))) ρ m
theorem w__law_web_E2 {ρ : Env} {M : Mem} {Q : PO2} : WE _law_web_E2 ρ M Q ↔ WE (eCall m__law_phased (aCons (eVar 0) (aCons (eBin ixF (eVar 5) (eVar 8)) (aCons (eVar 9) (aCons (eVar 10) (aCons (eVar 11) aNil)))))) ρ M Q := Iff.rfl
noncomputable def _law_web_F1 (ρ : Env) (m : Mem) : Option R := (sSeq (sSet 12 (eComp (iRg1 (eVar 4)) [13] (.nm 13) bYes _law_web_E2))
    (sSeq (sIf (bAnd (bOf (eBin eqF (eVar 8) (eC (.int 2)))) (bOf (eBin eqF (eVar 6) (eC (.int 1))))) (sSet 12 (eComp (iRg1 (eVar 4)) [13] (.nm 13) bYes _law_web_E1)) sNil)
    (sDo (eMt1 "list" appF (eVar 7) (eUn tupF (eUn srtF (eVar 12))))))) ρ m
theorem w__law_web_F1 {ρ : Env} {M : Mem} {Q : R → Prop} : WS _law_web_F1 ρ M Q ↔ WS (sSeq (sSet 12 (eComp (iRg1 (eVar 4)) [13] (.nm 13) bYes _law_web_E2))
    (sSeq (sIf (bAnd (bOf (eBin eqF (eVar 8) (eC (.int 2)))) (bOf (eBin eqF (eVar 6) (eC (.int 1))))) (sSet 12 (eComp (iRg1 (eVar 4)) [13] (.nm 13) bYes _law_web_E1)) sNil)
    (sDo (eMt1 "list" appF (eVar 7) (eUn tupF (eUn srtF (eVar 12))))))) ρ M Q := Iff.rfl
noncomputable def _law_web_F2 (ρ : Env) (m : Mem) : Option R := (sSeq (sSet 9 (eBin subF (eBin ixF (eVar 5) (eBin addF (eVar 8) (eC (.int 1)))) (eBin ixF (eVar 5) (eVar 8))))
    (sSeq (sSet 10 (eBin addF (eC (.int 1)) (eCall m__law_next (aCons (eVar 0) (aCons (eBin max2F (eC (.int 1)) (eVar 9)) aNil)))))
    (sFor (iRg2 (eBin ixF (eVar 5) (eVar 8)) (eBin ixF (eVar 5) (eBin addF (eVar 8) (eC (.int 1))))) (gT (.nm 11)) _law_web_F1))) ρ m
theorem w__law_web_F2 {ρ : Env} {M : Mem} {Q : R → Prop} : WS _law_web_F2 ρ M Q ↔ WS (sSeq (sSet 9 (eBin subF (eBin ixF (eVar 5) (eBin addF (eVar 8) (eC (.int 1)))) (eBin ixF (eVar 5) (eVar 8))))
    (sSeq (sSet 10 (eBin addF (eC (.int 1)) (eCall m__law_next (aCons (eVar 0) (aCons (eBin max2F (eC (.int 1)) (eVar 9)) aNil)))))
    (sFor (iRg2 (eBin ixF (eVar 5) (eVar 8)) (eBin ixF (eVar 5) (eBin addF (eVar 8) (eC (.int 1))))) (gT (.nm 11)) _law_web_F1))) ρ M Q := Iff.rfl
noncomputable def m__law_web : Fn := fnD 3 14
    (sSeq (sSet 3 (eBin addF (eC (.int 1)) (eCall m__law_next (aCons (eVar 0) (aCons (eVar 1) aNil)))))
    (sSeq (sSet 4 (eBin addF (eC (.int 1)) (eCall m__law_next (aCons (eVar 0) (aCons (eVar 2) aNil)))))
    (sSeq (sSet 5 (eUn srtF (eLst (aCons (eC (.int 0)) (aCons (eCall m__law_next (aCons (eVar 0) (aCons (eBin addF (eVar 3) (eC (.int 1))) aNil))) (aCons (eCall m__law_next (aCons (eVar 0) (aCons (eBin addF (eVar 3) (eC (.int 1))) aNil))) (aCons (eVar 3) aNil)))))))
    (sSeq (sSet 6 (eCall m__law_next (aCons (eVar 0) (aCons (eC (.int 2)) aNil))))
    (sSeq (sSet 7 (eLst aNil))
    (sSeq (sFor (iRg1 (eC (.int 3))) (gT (.nm 8)) _law_web_F2)
    (sRet (eUn tupF (eVar 7)))))))))
theorem phased_w {st : D} {ab : List Nat} {S : Mem → Prop} (g : Gen st ab S m__law_next) {M : Mem} (h : S M) {lo many beat room : Nat} (hb : 0 < beat) (hbm : beat ≤ many) (hm : many ≤ 1000) (h1 : lo ≤ room) (h2 : room < lo + many) {K : PO2} (k : ∀ (r : Nat) (M' : Mem), r < lo + many → S M' → Fr ab M M' → K (.v (.int (r : Int))) M') : WO (m__law_phased [st, .int (lo : Int), .int (many : Int), .int (beat : Int), .int (room : Int)] M) K := by
  unfold m__law_phased
  have e1 : ((room : Int) - (lo : Int) + 1) % (beat : Int) = (((room - lo + 1) % beat : Nat) : Int) := by
    rw [show (room : Int) - (lo : Int) + 1 = ((room - lo + 1 : Nat) : Int) by omega]
    rfl
  have hf : (room - lo + 1) % beat < beat := Nat.mod_lt _ hb
  generalize (room - lo + 1) % beat = f at *
  have e2 : ((many : Int) - 1 - (f : Int)) / (beat : Int) + 1 = (((many - 1 - f) / beat + 1 : Nat) : Int) := by
    rw [show (many : Int) - 1 - (f : Int) = ((many - 1 - f : Nat) : Int) by omega]
    rfl
  have hbp : (0 : Int) < (beat : Int) := by omega
  have hd : divOk (beat : Int) := divOk_nat hb (by omega)
  have hq : (many - 1 - f) / beat ≤ many - 1 - f := Nat.div_le_self _ _
  have hmd : beat * ((many - 1 - f) / beat) ≤ many - 1 - f := Nat.mul_div_le _ _
  simp only [wp, wx, wf, Nat.reduceSub, sub_int, add_int, mod_int, hbp, if_true, e1, div_int, hd, e2]
  generalize (many - 1 - f) / beat = dv at *
  refine g.w (n := dv + 1) h (by omega) (by omega) fun r M1 hr s1 f1 => ?_
  have hr' : r ≤ dv := by omega
  have hmul : beat * r ≤ many - 1 - f := Nat.le_trans (Nat.mul_le_mul_left _ hr') hmd
  have hmo : mulOk (beat : Int) (r : Int) := .inl ⟨by omega, by omega⟩
  have e3 : (lo : Int) + (f : Int) + (beat : Int) * (r : Int) = ((lo + f + beat * r : Nat) : Int) := by
    rw [Int.natCast_add, Int.natCast_add, Int.natCast_mul]
  simp only [wp, wx, mul_int, hmo, if_true, add_int, e3]
  rw [g.kFn f1 s1 (by simp)]
  exact k _ M1 (by omega) s1 f1
theorem sorted_row (w : List Nat) : ∃ s : List Nat, s.Perm w ∧ s.Pairwise (fun a b => ¬ b < a) := by
  refine ⟨w.mergeSort (fun a b => decide (a ≤ b)), List.mergeSort_perm _ _, ?_⟩
  have := List.pairwise_mergeSort (le := fun a b => decide (a ≤ b)) (fun a b c h1 h2 => by simp at h1 h2 ⊢; omega) (fun a b => by simp; omega) w
  exact this.imp fun h => by simp at h; omega
theorem srt_any {w s : List Nat} (hp : s.Perm w) (hs : s.Pairwise fun a b => ¬ b < a) (hl : w.length ≤ 90000) {x : Out} {M : Mem} (hx : seqOf x M = some (nats w)) : srtF x M = some (.o (.lst (nats s)), M) :=
  srtF_of ordd_nat (fun a b h1 h2 => by omega) (.inr fun a => ⟨by simp [D.pd], by simp [D.pd]⟩) (by omega) hp hs hx
theorem wc_draw {ab : List Nat} {S : Mem → Prop} {M0 : Mem} (B : Nat) {t : Tg} {f : E} {ρ : Env} {xs : List D} {M : Mem} {Q : List D → Mem → Prop} (L : Loc ab S M0 M)
    (hE : ∀ x ∈ xs, ∀ (M' : Mem), Loc ab S M0 M' → Own M0 M M' → WEnv (t.put x ρ) fun ρ' => ∀ (K : PO2), (∀ (r : Nat) (M2 : Mem), r < B → Loc ab S M0 M2 → Own M0 M' M2 → K (.v (.int (r : Int))) M2) → WE f ρ' M' K)
    (k : ∀ (w : List Nat) (M2 : Mem), w.length = xs.length → (∀ r ∈ w, r < B) → Loc ab S M0 M2 → Own M0 M M2 → Q (nats w) M2) : WC t bYes f [] ρ xs M Q := by
  refine wc_inv (fun i acc M' => Loc ab S M0 M' ∧ Own M0 M M' ∧ ∃ w : List Nat, acc = nats w ∧ w.length = i ∧ ∀ r ∈ w, r < B) ⟨L, ⟨rfl, fun _ _ => rfl⟩, [], rfl, rfl, by simp⟩ (fun _ _ _ _ _ => chk_nil) (fun i x acc M' hx j => ?_) (fun acc M' j => ?_)
  · obtain ⟨L', o', w, rfl, hwl, hw⟩ := j
    obtain ⟨ρ', e, hf⟩ := hE x (List.mem_of_getElem? hx) M' L' o'
    refine ⟨ρ', e, ?_⟩
    refine ⟨true, M', rfl, hf _ fun r M2 hr L2 o2 => ?_⟩
    refine ⟨L2, ⟨o2.1.trans o'.1, fun q hq => (o2.2 q hq).trans (o'.2 q hq)⟩, w ++ [r], by simp [nats, kcV, val], by simp [hwl], fun s hs => ?_⟩
    rcases List.mem_append.mp hs with hs | hs
    · exact hw s hs
    · simp at hs; subst hs; exact hr
  · obtain ⟨L', o', w, rfl, hwl, hw⟩ := j
    exact k w M' hwl hw L' o'
def cutN (a b n : Nat) (i : Nat) : Nat := [0, min a b, max a b, n].getD i 0
structure WbI (ab : List Nat) (S : Mem → Prop) (M : Mem) (q5 q7 : Nat) (a b n w : Nat) (M' : Mem) (R : List (List Nat)) : Prop where
  L : Loc ab S M M'
  h5 : M'[q5]? = some (.lst (nats [0, min a b, max a b, n]))
  h7 : M'[q7]? = some (.lst (R.map tN))
  rl : ∀ row ∈ R, row.length = w ∧ ∀ r ∈ row, r < n
theorem web_w {st : D} {ab : List Nat} {S : Mem → Prop} (g : Gen st ab S m__law_next) {M : Mem} (h : S M) {mo wy : Nat} (hmo : 0 < mo) (hmo2 : mo ≤ 900) (hwy : 0 < wy) (hwy2 : wy ≤ 60) {K : PO2}
    (k : ∀ (W : List (List Nat)) (l : Nat) (M' : Mem), Mach W l → 0 < W.length → W.length ≤ mo → 0 < l → l ≤ wy → S M' → Fr ab M M' → K (.v (tM W)) M') : WO (m__law_web [st, .int (mo : Int), .int (wy : Int)] M) K := by
  unfold m__law_web
  simp only [wp, wx, wf, Nat.reduceSub]
  refine (Loc.new h).w g (n := mo) hmo (by omega) fun n0 M1 hn0 L1 o1 => ?_
  have a1 : (1 : Int) + (n0 : Int) = ((1 + n0 : Nat) : Int) := by omega
  simp only [wp, wx, add_int, a1]
  refine L1.w g (n := wy) hwy (by omega) fun w0 M2 hw0 L2 o2 => ?_
  have a2 : (1 : Int) + (w0 : Int) = ((1 + w0 : Nat) : Int) := by omega
  simp only [wp, wx, add_int, a2]
  generalize hn : 1 + n0 = n at *
  generalize hw : 1 + w0 = w at *
  have a3 : (n : Int) + 1 = ((n + 1 : Nat) : Int) := by omega
  simp only [a3]
  refine L2.w g (n := n + 1) (by omega) (by omega) fun a M3 ha L3 o3 => ?_
  simp only [wp, wx, add_int, a3]
  refine L3.w g (n := n + 1) (by omega) (by omega) fun b M4 hb L4 o4 => ?_
  have hperm : [0, min a b, max a b, n].Perm [0, a, b, n] := by
    by_cases hab : a ≤ b
    · rw [Nat.min_eq_left hab, Nat.max_eq_right hab]
    · rw [Nat.min_eq_right (by omega), Nat.max_eq_left (by omega)]
      exact List.Perm.cons 0 (List.Perm.swap a b [n])
  have hsort : [0, min a b, max a b, n].Pairwise fun x y => ¬ y < x := by
    simp only [List.pairwise_cons, List.mem_cons, List.not_mem_nil, or_false]
    refine ⟨fun y hy => ?_, fun y hy => ?_, fun y hy => ?_, fun y hy => hy.elim, List.Pairwise.nil⟩
    · omega
    · omega
    · omega
  have es := fun M => srt_any hperm hsort (by simp) (x := .o (.lst [D.int 0, .int (a : Int), .int (b : Int), .int (n : Int)])) (M := M) rfl
  simp only [wp, wx, es]
  have L5 := L4.app g [Ob.lst (nats [0, min a b, max a b, n])]
  have h55 : (M4 ++ [Ob.lst (nats [0, min a b, max a b, n])])[M4.length]? = some (.lst (nats [0, min a b, max a b, n])) := get_end rfl
  have hq5 := L4.le
  generalize hM4 : M4.length = q5 at *
  generalize hM5 : M4 ++ [Ob.lst (nats [0, min a b, max a b, n])] = M5 at *
  refine L5.w g (n := 2) (by omega) (by omega) fun lo M6 hlo L6 o6 => ?_
  have h56 : M6[q5]? = some (.lst (nats [0, min a b, max a b, n])) := by rw [o6.2 _ hq5]; exact h55
  have hlq := get_lt h56
  simp only [wp, wx]
  have I0 : WbI ab S M q5 M6.length a b n w (M6 ++ [Ob.lst []]) [] := ⟨L6.app g _, get_app h56, get_end rfl, by simp⟩
  generalize hq7 : M6.length = q7 at *
  generalize M6 ++ [Ob.lst []] = M7 at *
  have hc : ∀ i, i < 3 → cutN a b n i ≤ cutN a b n (i + 1) := fun i hi => by
    rcases (by omega : i = 0 ∨ i = 1 ∨ i = 2) with rfl | rfl | rfl <;> simp [cutN] <;> omega
  have hcn : ∀ i, i < 4 → cutN a b n i ≤ n := fun i hi => by
    rcases (by omega : i = 0 ∨ i = 1 ∨ i = 2 ∨ i = 3) with rfl | rfl | rfl | rfl <;> simp [cutN] <;> omega
  have eix : ∀ {M' : Mem}, M'[q5]? = some (.lst (nats [0, min a b, max a b, n])) → ∀ i : Nat, i < 4 → ixF (.v (.ref q5)) (.v (.int (i : Int))) M' = some (.v (.int ((cutN a b n i : Nat) : Int)), M') := fun hx i hi => by
    rw [ixn_at hx (by simpa using hi)]
    rcases (by omega : i = 0 ∨ i = 1 ∨ i = 2 ∨ i = 3) with rfl | rfl | rfl | rfl <;> rfl
  refine ⟨rgOk_of (by omega) (by omega), ?_⟩
  rw [show (3 : Int).toNat = 3 from rfl]
  refine wl_rg0 (fun i ρ Mx => (∃ R, WbI ab S M q5 q7 a b n w Mx R ∧ R.length = cutN a b n i) ∧ ∃ x8 x9 x10 x11 x12, ρ = [some st, some (.int (mo : Int)), some (.int (wy : Int)), some (.int (n : Int)), some (.int (w : Int)), some (.ref q5), some (.int (lo : Int)), some (.ref q7), x8, x9, x10, x11, x12, none]) ⟨⟨[], I0, by simp [cutN]⟩, _, _, _, _, _, rfl⟩ (fun i ρ Mx hi j => ?_) (fun ρ Mx j => ?_)
  · obtain ⟨⟨R, I, hR⟩, x8, x9, x10, x11, x12, rfl⟩ := j
    have e1 : (i : Int) + 1 = ((i + 1 : Nat) : Int) := by omega
    have hle := hc i hi
    have hcn1 := hcn (i + 1) (by omega)
    have e2 : ((cutN a b n (i + 1) : Nat) : Int) - ((cutN a b n i : Nat) : Int) = ((cutN a b n (i + 1) - cutN a b n i : Nat) : Int) := by omega
    generalize hmany : cutN a b n (i + 1) - cutN a b n i = many at *
    have emx : ∀ M : Mem, max2F (.v (.int 1)) (.v (.int (many : Int))) M = some (.v (.int ((max 1 many : Nat) : Int)), M) := fun M => by
      have : (if (many : Int) > 1 then (many : Int) else 1) = ((max 1 many : Nat) : Int) := by split <;> omega
      simp only [max2F, this]
    simp only [wp, wx, w__law_web_F2, add_int, e1, eix I.h5 i (by omega), eix I.h5 (i + 1) (by omega), sub_int, e2, emx]
    refine I.L.w g (n := max 1 many) (by omega) (by omega) fun bt My hbt Ly oy => ?_
    have h7l : M.length ≤ q7 := by have := L6.le; omega
    have h5y : My[q5]? = some (.lst (nats [0, min a b, max a b, n])) := by rw [oy.2 _ hq5]; exact I.h5
    have h7y : My[q7]? = some (.lst (R.map tN)) := by rw [oy.2 _ h7l]; exact I.h7
    have e3 : (1 : Int) + (bt : Int) = ((1 + bt : Nat) : Int) := by omega
    simp only [wp, wx, add_int, e3, e1, eix h5y i (by omega), eix h5y (i + 1) (by omega)]
    refine ⟨rg2Ok_of (by omega) (by omega) (by omega) (by omega), ?_⟩
    rw [e2, Int.toNat_natCast]
    refine wl_rg (fun j ρ Mx => (∃ R, WbI ab S M q5 q7 a b n w Mx R ∧ R.length = cutN a b n i + j) ∧ ∃ x11 x12, ρ = [some st, some (.int (mo : Int)), some (.int (wy : Int)), some (.int (n : Int)), some (.int (w : Int)), some (.ref q5), some (.int (lo : Int)), some (.ref q7), some (.int (i : Int)), some (.int (many : Int)), some (.int ((1 + bt : Nat) : Int)), x11, x12, none]) ⟨⟨R, ⟨Ly, h5y, h7y, I.rl⟩, by simpa using hR⟩, _, _, rfl⟩ (fun j ρ Mx hj jj => ?_) (fun ρ Mx jj => ?_)
    · obtain ⟨⟨R, I, hR⟩, y11, y12, rfl⟩ := jj
      have e4 : ((cutN a b n i : Nat) : Int) + (j : Int) = ((cutN a b n i + j : Nat) : Int) := by omega
      simp only [wp, wx, w__law_web_F1, e4]
      refine ⟨rg_nat (by omega), ?_⟩
      rw [Int.toNat_natCast]
      have hjm : j < many := hj
      refine wc_draw (ab := ab) (S := S) (M0 := M) n I.L (fun y hy M' L' o' => ?_) (fun v M8 hvl hv L8 o8 => ?_)
      · simp only [wp, wx, w__law_web_E2]
        intro K' hK
        have h5' : M'[q5]? = some (.lst (nats [0, min a b, max a b, n])) := by rw [o'.2 _ hq5]; exact I.h5
        simp only [eix h5' i (by omega), wp, wx]
        refine phased_w g L'.s (lo := cutN a b n i) (many := many) (beat := 1 + bt) (room := cutN a b n i + j) (by omega) (by omega) (by omega) (by omega) (by omega) fun r M2 hr s2 f2 => ?_
        obtain ⟨L2', o2'⟩ := L'.step g s2 f2
        exact hK r M2 (by omega) L2' o2'
      rw [upto_len] at hvl
      have h58 : M8[q5]? = some (.lst (nats [0, min a b, max a b, n])) := by rw [o8.2 _ hq5]; exact I.h5
      have h78 : M8[q7]? = some (.lst (R.map tN)) := by rw [o8.2 _ h7l]; exact I.h7
      have hl7 := get_lt h78
      have hl5 := get_lt h58
      simp only [wp, wx, eq_int]
      have go : ∀ (v : List Nat) (M8 : Mem), v.length = w → (∀ r ∈ v, r < n) → Loc ab S M M8 → M8[q5]? = some (.lst (nats [0, min a b, max a b, n])) → M8[q7]? = some (.lst (R.map tN)) → True := fun _ _ _ _ _ _ _ => trivial
      by_cases hi2 : (i : Int) = 2
      · simp only [hi2, decide_true, wp, wx, eq_int]
        by_cases hlo1 : (lo : Int) = 1
        · simp only [hlo1, decide_true, wp, wx]
          refine ⟨rg_nat (by omega), ?_⟩
          rw [Int.toNat_natCast]
          refine (L8.app g [Ob.lst (nats v)]).wds g (n := n) (by omega) (by omega) (fun y _ => ?_) (fun v2 M9 hvl2 hv2 L9 o9 => ?_)
          · simp only [wp, wx, w__law_web_E1]; exact fun M K h => h
          rw [upto_len] at hvl2
          have h59 : M9[q5]? = some (.lst (nats [0, min a b, max a b, n])) := by rw [o9.2 _ hq5]; exact get_app h58
          have h79 : M9[q7]? = some (.lst (R.map tN)) := by rw [o9.2 _ h7l]; exact get_app h78
          simp only [wp, wx]
          have Lv := L9.app g [Ob.lst (nats v2)]
          have h5v : (M9 ++ [Ob.lst (nats v2)])[q5]? = some (.lst (nats [0, min a b, max a b, n])) := get_app h59
          have h7v : (M9 ++ [Ob.lst (nats v2)])[q7]? = some (.lst (R.map tN)) := get_app h79
          have hqv : (M9 ++ [Ob.lst (nats v2)])[M9.length]? = some (.lst (nats v2)) := get_end rfl
          generalize M9.length = qv at *
          generalize M9 ++ [Ob.lst (nats v2)] = Mv at *
          have hv := hv2
          have hvl := hvl2
          generalize v2 = v at *
          obtain ⟨sv, hsp, hss⟩ := sorted_row v
          have esv := srt_any hsp hss (by omega) (x := .v (.ref qv)) (M := Mv) (by simp only [seqOf, hqv])
          have hRl : (R.map tN).length ≤ 90000 := by simp; have := hcn i (by omega); omega
          simp only [wp, wx, isT_ref h7v, esv, tup_ol, tN_eq, app_ref h7v hRl]
          refine ⟨⟨R ++ [sv], ⟨Lv.set g h7l _, get_other h5v (by omega), by rw [get_put h7v]; simp, fun row hrow => ?_⟩, by simp; omega⟩, _, _, rfl⟩
          rcases List.mem_append.mp hrow with hrow | hrow
          · exact I.rl row hrow
          · simp at hrow; subst hrow
            exact ⟨by rw [hsp.length_eq]; exact hvl, fun r hr => hv r (hsp.mem_iff.mp hr)⟩
        · simp only [hlo1, decide_false, wp, wx]
          have Lv := L8.app g [Ob.lst (nats v)]
          have h5v : (M8 ++ [Ob.lst (nats v)])[q5]? = some (.lst (nats [0, min a b, max a b, n])) := get_app h58
          have h7v : (M8 ++ [Ob.lst (nats v)])[q7]? = some (.lst (R.map tN)) := get_app h78
          have hqv : (M8 ++ [Ob.lst (nats v)])[M8.length]? = some (.lst (nats v)) := get_end rfl
          generalize M8.length = qv at *
          generalize M8 ++ [Ob.lst (nats v)] = Mv at *
          obtain ⟨sv, hsp, hss⟩ := sorted_row v
          have esv := srt_any hsp hss (by omega) (x := .v (.ref qv)) (M := Mv) (by simp only [seqOf, hqv])
          have hRl : (R.map tN).length ≤ 90000 := by simp; have := hcn i (by omega); omega
          simp only [wp, wx, isT_ref h7v, esv, tup_ol, tN_eq, app_ref h7v hRl]
          refine ⟨⟨R ++ [sv], ⟨Lv.set g h7l _, get_other h5v (by omega), by rw [get_put h7v]; simp, fun row hrow => ?_⟩, by simp; omega⟩, _, _, rfl⟩
          rcases List.mem_append.mp hrow with hrow | hrow
          · exact I.rl row hrow
          · simp at hrow; subst hrow
            exact ⟨by rw [hsp.length_eq]; exact hvl, fun r hr => hv r (hsp.mem_iff.mp hr)⟩
      · simp only [hi2, decide_false, wp, wx]
        have Lv := L8.app g [Ob.lst (nats v)]
        have h5v : (M8 ++ [Ob.lst (nats v)])[q5]? = some (.lst (nats [0, min a b, max a b, n])) := get_app h58
        have h7v : (M8 ++ [Ob.lst (nats v)])[q7]? = some (.lst (R.map tN)) := get_app h78
        have hqv : (M8 ++ [Ob.lst (nats v)])[M8.length]? = some (.lst (nats v)) := get_end rfl
        generalize M8.length = qv at *
        generalize M8 ++ [Ob.lst (nats v)] = Mv at *
        obtain ⟨sv, hsp, hss⟩ := sorted_row v
        have esv := srt_any hsp hss (by omega) (x := .v (.ref qv)) (M := Mv) (by simp only [seqOf, hqv])
        have hRl : (R.map tN).length ≤ 90000 := by simp; have := hcn i (by omega); omega
        simp only [wp, wx, isT_ref h7v, esv, tup_ol, tN_eq, app_ref h7v hRl]
        refine ⟨⟨R ++ [sv], ⟨Lv.set g h7l _, get_other h5v (by omega), by rw [get_put h7v]; simp, fun row hrow => ?_⟩, by simp; omega⟩, _, _, rfl⟩
        rcases List.mem_append.mp hrow with hrow | hrow
        · exact I.rl row hrow
        · simp at hrow; subst hrow
          exact ⟨by rw [hsp.length_eq]; exact hvl, fun r hr => hv r (hsp.mem_iff.mp hr)⟩
    · obtain ⟨⟨R, I, hR⟩, y11, y12, rfl⟩ := jj
      simp only [wp, wx]
      exact ⟨⟨R, I, by omega⟩, _, _, _, _, _, rfl⟩
  · obtain ⟨⟨R, I, hR⟩, x8, x9, x10, x11, x12, rfl⟩ := j
    have hRn : R.length = n := by rw [hR]; rfl
    have hM : Mach R w := ⟨fun row hr => (I.rl row hr).1, fun row hr r hrr => by rw [hRn]; exact (I.rl row hr).2 r hrr⟩
    simp only [wp, wx, tup_ref I.h7]
    exact I.L.kFn g (d := tM R) (by simp) fun M9 s9 f9 => k R w M9 hM (by omega) (by omega) (by omega) (by omega) s9 f9
mutual
theorem eqb_refl : ∀ (n : Nat) (d : D), okD n d = true → d.eqb d = true
  | _, .non, _ => by simp [D.eqb]
  | _, .bl _, _ => by simp [D.eqb]
  | _, .int _, _ => by simp [D.eqb]
  | _, .str _, _ => by simp [D.eqb]
  | 0, .tup _, h => by simp [okD] at h
  | n + 1, .tup xs, h => by simp only [okD] at h; simp only [D.eqb]; exact eqbL_refl n xs h
  | 0, .fl _, h => by simp [okD] at h
  | n + 1, .fl xs, h => by simp only [okD] at h; simp only [D.eqb]; exact eqbL_refl n xs h
  | _, .par _, h => by simp [okD] at h
  | _, .ref _, h => by simp [okD] at h
  | _, .lam _ _, h => by simp [okD] at h
theorem eqbL_refl : ∀ (n : Nat) (d : List D), okL n d = true → eqbL d d = true
  | _, [], _ => by simp [eqbL]
  | n, d :: ds, h => by
    simp only [okL, Bool.and_eq_true] at h
    simp only [eqbL, eqb_refl n d h.1, eqbL_refl n ds h.2, Bool.and_self]
end
theorem ne_same {x y : Out} {d : D} {M : Mem} (h1 : form x M = some d) (h2 : form y M = some d) (ho : okD 64 d = true) : neF x y M = some (.v (.bl false), M) := by
  simp only [neF, h1, h2, Option.bind_some, if_pos (And.intro ho ho), eqb_refl 64 d ho, Bool.not_true]
theorem eq_same {x y : Out} {d : D} {M : Mem} (h1 : form x M = some d) (h2 : form y M = some d) (ho : okD 64 d = true) : eqF x y M = some (.v (.bl true), M) := by
  simp only [eqF, h1, h2, Option.bind_some, if_pos (And.intro ho ho), eqb_refl 64 d ho]
theorem form_ref {q : Nat} {xs : List D} {M : Mem} (h : M[q]? = some (.lst xs)) : form (.v (.ref q)) M = some (.fl xs) := by simp [form, h]
theorem form_ol (xs : List D) (M : Mem) : form (.o (.lst xs)) M = some (.fl xs) := by simp [form]
/-! ### a search by a row of things, each with a label: what is met first has the least label -/
section
variable {α β : Type}
def keysB (fr : List (α × β)) : List α := fr.map (·.1)
variable [DecidableEq α]
def put1 (fr : List (α × β)) (c : α × β) : List (α × β) := if c.1 ∈ keysB fr then fr else fr ++ [c]
def addAll (fr : List (α × β)) (cs : List (α × β)) : List (α × β) := cs.foldl put1 fr
theorem put1_in {fr : List (α × β)} {c : α × β} (h : c.1 ∈ keysB fr) : put1 fr c = fr := by unfold put1; rw [if_pos h]
theorem put1_new {fr : List (α × β)} {c : α × β} (h : c.1 ∉ keysB fr) : put1 fr c = fr ++ [c] := by unfold put1; rw [if_neg h]
theorem addAll_take {fr : List (α × β)} {cs : List (α × β)} {i : Nat} (hi : i < cs.length) : addAll fr (cs.take (i + 1)) = put1 (addAll fr (cs.take i)) cs[i] := by
  unfold addAll
  rw [List.take_add_one, List.getElem?_eq_getElem hi, Option.toList_some, List.foldl_append]
  rfl
variable (nx : α × β → List (α × β)) (lt : β → β → Prop) (sd : List (α × β))
structure Rule : Prop where
  two : ∀ q q' c c', lt q.2 q'.2 → c ∈ nx q → c' ∈ nx q' → lt c.2 c'.2
  own : ∀ q, (nx q).Pairwise fun c c' => lt c.2 c'.2
  sds : ∀ s ∈ sd, ∀ q c, c ∈ nx q → lt s.2 c.2
  srt : sd.Pairwise fun c c' => lt c.2 c'.2
  nd : (keysB sd).Nodup
/-- what can be come to, by what label -/
inductive Der (nx : α × β → List (α × β)) (sd : List (α × β)) : α × β → Prop
  | sd {c : α × β} : c ∈ sd → Der nx sd c
  | go {q c : α × β} : Der nx sd q → c ∈ nx q → Der nx sd c
/-- at so many of the row are gone through -/
structure Bfs (at_ : Nat) (fr : List (α × β)) : Prop where
  nd : (keysB fr).Nodup
  srt : fr.Pairwise fun c c' => lt c.2 c'.2
  par : ∀ c ∈ fr, c ∈ sd ∨ ∃ (i : Nat) (q : α × β), i < at_ ∧ fr[i]? = some q ∧ c ∈ nx q
  seeds : ∀ c ∈ sd, c ∈ fr
  fst : ∀ (i : Nat) (q : α × β), i < at_ → fr[i]? = some q → ∀ c ∈ nx q, ∃ c1 ∈ fr, c1.1 = c.1 ∧ (c1 = c ∨ lt c1.2 c.2)
  le : at_ ≤ fr.length
  dr : ∀ c ∈ fr, Der nx sd c
theorem Bfs.init (R : Rule nx lt sd) : Bfs nx lt sd 0 sd := ⟨R.nd, R.srt, fun c h => .inl h, fun c h => h, fun i q h => by omega, Nat.zero_le _, fun c h => .sd h⟩
variable {nx lt sd}
theorem addAll_pre (fr : List (α × β)) : ∀ cs : List (α × β), ∃ e, addAll fr cs = fr ++ e ∧ ∀ c ∈ e, c ∈ cs := by
  intro cs
  induction cs generalizing fr with
  | nil => exact ⟨[], by simp [addAll], by simp⟩
  | cons c cs ih =>
    obtain ⟨e, h1, h2⟩ := ih (put1 fr c)
    have e0 : addAll fr (c :: cs) = addAll (put1 fr c) cs := rfl
    by_cases h : c.1 ∈ keysB fr
    · rw [e0, put1_in h] at *
      exact ⟨e, h1, fun x hx => by simp [h2 x hx]⟩
    · rw [put1_new h] at h1
      rw [e0, put1_new h]
      refine ⟨c :: e, by rw [h1]; simp, fun x hx => ?_⟩
      rcases List.mem_cons.mp hx with rfl | hx
      · simp
      · simp [h2 x hx]
theorem Bfs.step (R : Rule nx lt sd) {at_ : Nat} {fr : List (α × β)} (B : Bfs nx lt sd at_ fr) {q : α × β} (hq : fr[at_]? = some q) : Bfs nx lt sd (at_ + 1) (addAll fr (nx q)) := by
  have hlt : at_ < fr.length := (List.getElem?_eq_some_iff.mp hq).1
  -- what stands ahead of the round is before each candidate
  have old : ∀ c1 ∈ fr, ∀ c ∈ nx q, lt c1.2 c.2 := fun c1 h1 c hc => by
    rcases B.par c1 h1 with h | ⟨i, q1, hi, hq1, hc1⟩
    · exact R.sds c1 h q c hc
    · obtain ⟨hi1, e1⟩ := List.getElem?_eq_some_iff.mp hq1
      obtain ⟨_, e2⟩ := List.getElem?_eq_some_iff.mp hq
      have := List.pairwise_iff_getElem.mp B.srt i at_ hi1 hlt hi
      rw [e1, e2] at this
      exact R.two q1 q c1 c this hc1 hc
  -- the round
  have round : ∀ (cs done : List (α × β)) (g : List (α × β)), nx q = done ++ cs → (keysB g).Nodup → (g.Pairwise fun c c' => lt c.2 c'.2) → (∃ e, g = fr ++ e ∧ ∀ c ∈ e, c ∈ done) → (∀ c ∈ done, ∃ c1 ∈ g, c1.1 = c.1 ∧ (c1 = c ∨ lt c1.2 c.2)) →
      (keysB (addAll g cs)).Nodup ∧ ((addAll g cs).Pairwise fun c c' => lt c.2 c'.2) ∧ ∀ c ∈ nx q, ∃ c1 ∈ addAll g cs, c1.1 = c.1 ∧ (c1 = c ∨ lt c1.2 c.2) := by
    intro cs
    induction cs with
    | nil => intro done g e nd srt _ hf; rw [List.append_nil] at e; exact ⟨nd, srt, by rw [e]; exact hf⟩
    | cons c cs ih =>
      intro done g e nd srt ⟨ex, eg, hex⟩ hf
      have hcq : c ∈ nx q := by rw [e]; simp
      have before : ∀ c1 ∈ g, lt c1.2 c.2 := fun c1 h1 => by
        rw [eg] at h1
        rcases List.mem_append.mp h1 with h1 | h1
        · exact old c1 h1 c hcq
        · have := R.own q
          rw [e] at this
          exact (List.pairwise_append.mp this).2.2 c1 (hex c1 h1) c (by simp)
      show (keysB (addAll (put1 g c) cs)).Nodup ∧ _
      by_cases hk : c.1 ∈ keysB g
      · refine ih (done ++ [c]) (put1 g c) (by rw [e]; simp) (by rw [put1_in hk]; exact nd) (by rw [put1_in hk]; exact srt) ⟨ex, by rw [put1_in hk]; exact eg, fun x hx => by simp [hex x hx]⟩ (fun x hx => ?_)
        rw [put1_in hk]
        rcases List.mem_append.mp hx with hx | hx
        · exact hf x hx
        · simp at hx; subst hx
          obtain ⟨c1, h1, e1⟩ := List.mem_map.mp hk
          exact ⟨c1, h1, e1, .inr (before c1 h1)⟩
      · refine ih (done ++ [c]) (put1 g c) (by rw [e]; simp) ?_ ?_ ⟨ex ++ [c], by rw [put1_new hk, eg]; simp, fun x hx => ?_⟩ (fun x hx => ?_)
        · rw [put1_new hk]
          show (List.map _ _).Nodup
          rw [List.map_append, List.nodup_append]
          exact ⟨nd, by simp, fun a ha b hb => by simp at hb; subst hb; intro z; subst z; exact hk ha⟩
        · rw [put1_new hk, List.pairwise_append]
          exact ⟨srt, by simp, fun a ha b hb => by simp at hb; subst hb; exact before a ha⟩
        · rcases List.mem_append.mp hx with hx | hx
          · simp [hex x hx]
          · simp at hx; subst hx; simp
        · rw [put1_new hk]
          rcases List.mem_append.mp hx with hx | hx
          · obtain ⟨c1, h1, h2⟩ := hf x hx; exact ⟨c1, by simp [h1], h2⟩
          · simp at hx; subst hx; exact ⟨x, by simp, rfl, .inl rfl⟩
  obtain ⟨h1, h2, h3⟩ := round (nx q) [] fr rfl B.nd B.srt ⟨[], by simp, by simp⟩ (by simp)
  obtain ⟨e, he, hec⟩ := addAll_pre fr (nx q)
  have get : ∀ (i : Nat) (x : α × β), fr[i]? = some x → (addAll fr (nx q))[i]? = some x := fun i x hx => by
    rw [he, List.getElem?_append_left (List.getElem?_eq_some_iff.mp hx).1]; exact hx
  have gback : ∀ (i : Nat) (x : α × β), i < at_ + 1 → (addAll fr (nx q))[i]? = some x → fr[i]? = some x := fun i x hi hx => by
    rw [he, List.getElem?_append_left (by omega)] at hx; exact hx
  have sub : ∀ c ∈ fr, c ∈ addAll fr (nx q) := fun c hc => by rw [he]; simp [hc]
  refine ⟨h1, h2, fun c hc => ?_, fun c hc => sub c (B.seeds c hc), fun i q' hi hq' c hc => ?_, by rw [he]; simp; omega, fun c hc => ?_⟩
  · rw [he] at hc
    rcases List.mem_append.mp hc with hc | hc
    · rcases B.par c hc with h | ⟨i, q1, hi, hq1, hc1⟩
      · exact .inl h
      · exact .inr ⟨i, q1, by omega, get i q1 hq1, hc1⟩
    · exact .inr ⟨at_, q, by omega, get at_ q hq, hec c hc⟩
  · by_cases hia : i < at_
    · obtain ⟨c1, h4, h5⟩ := B.fst i q' hia (gback i q' hi hq') c hc
      exact ⟨c1, sub c1 h4, h5⟩
    · have : i = at_ := by omega
      subst this
      have := gback i q' hi hq'
      rw [hq] at this
      cases this
      exact h3 c hc
  · rw [he] at hc
    rcases List.mem_append.mp hc with hc | hc
    · exact B.dr c hc
    · exact .go (B.dr q (List.mem_of_getElem? hq)) (hec c hc)
theorem Bfs.least (tr : ∀ a b c, lt a b → lt b c → lt a c) (mono : ∀ (p : α) (v v' : β) (c : α × β), lt v v' → c ∈ nx (p, v') → ∃ c0 ∈ nx (p, v), c0.1 = c.1 ∧ (c0 = c ∨ lt c0.2 c.2)) {fr : List (α × β)} (B : Bfs nx lt sd fr.length fr) :
    ∀ c, Der nx sd c → ∃ c1 ∈ fr, c1.1 = c.1 ∧ (c1 = c ∨ lt c1.2 c.2) := by
  intro c d
  induction d with
  | sd h => exact ⟨_, B.seeds _ h, rfl, .inl rfl⟩
  | @go q c _ hc ih =>
    obtain ⟨q1, h1, e1, h2⟩ := ih
    obtain ⟨i, hi, eq⟩ := List.getElem_of_mem h1
    have hq1 : fr[i]? = some q1 := by rw [List.getElem?_eq_getElem hi, eq]
    rcases h2 with rfl | h2
    · exact B.fst i q1 hi hq1 c hc
    · obtain ⟨p, v⟩ := q1
      obtain ⟨p', v'⟩ := q
      simp only at e1 h2
      subst e1
      obtain ⟨c0, h3, e3, h4⟩ := mono p v v' c h2 hc
      obtain ⟨c1, h5, e5, h6⟩ := B.fst i (p, v) hi hq1 c0 h3
      refine ⟨c1, h5, e5.trans e3, ?_⟩
      rcases h6 with rfl | h6
      · rcases h4 with rfl | h4
        · exact .inl rfl
        · exact .inr h4
      · rcases h4 with rfl | h4
        · exact .inr h6
        · exact .inr (tr _ _ _ h6 h4)
end
/-! ### pairs of rooms, plain -/
theorem pw_all {α : Type} {R : α → α → Prop} (h : ∀ a b, R a b) : ∀ l : List α, l.Pairwise R
  | [] => .nil
  | a :: l => .cons (fun b _ => h a b) (pw_all h l)
abbrev P2 := Nat × Nat
def ordP (a b : Nat) : P2 := (min a b, max a b)
def behN (m : List (List Nat)) (p : P2) (a : Nat) : Option P2 := if stp m p.1 a = stp m p.2 a then none else some (ordP (stp m p.1 a) (stp m p.2 a))
def PairOk (n : Nat) (p : P2) : Prop := p.1 < p.2 ∧ p.2 < n
theorem behN_ok {m : List (List Nat)} {l : Nat} (hm : Mach m l) {p q : P2} (hp : PairOk m.length p) {a : Nat} (ha : a < l) (h : behN m p a = some q) : PairOk m.length q := by
  unfold behN at h
  split at h
  · cases h
  · rename_i hne
    cases h
    have h1 := stp_lt hm (Nat.lt_trans hp.1 hp.2) ha
    have h2 := stp_lt hm hp.2 ha
    unfold ordP PairOk
    simp only
    omega
/-- a word that leads a pair to one room -/
def Mrg (m : List (List Nat)) (w : List Nat) (p : P2) : Prop := ledN m p.1 w = ledN m p.2 w
theorem mrg_cons (m : List (List Nat)) (a : Nat) (w : List Nat) (p : P2) : Mrg m (a :: w) p ↔ match behN m p a with | none => True | some q => Mrg m w q := by
  unfold behN
  have e1 : ∀ r, ledN m r (a :: w) = ledN m (stp m r a) w := fun r => rfl
  unfold Mrg
  rw [e1, e1]
  by_cases h : stp m p.1 a = stp m p.2 a
  · rw [if_pos h, h]; simp
  · rw [if_neg h]
    simp only [ordP]
    by_cases h2 : stp m p.1 a ≤ stp m p.2 a
    · rw [Nat.min_eq_left h2, Nat.max_eq_right h2]
    · rw [Nat.min_eq_right (by omega), Nat.max_eq_left (by omega)]; exact ⟨Eq.symm, Eq.symm⟩
theorem mrg_nil {m : List (List Nat)} {n : Nat} {p : P2} (hp : PairOk n p) : ¬ Mrg m [] p := fun h => by
  have := hp.1
  simp only [Mrg, ledN_nil] at h
  omega
def prs : List Nat → List P2
  | [] => []
  | x :: S => (S.map fun y => (x, y)) ++ prs S
theorem prs_mem : ∀ {S : List Nat}, S.Pairwise (· < ·) → ∀ p : P2, p ∈ prs S ↔ p.1 ∈ S ∧ p.2 ∈ S ∧ p.1 < p.2
  | [], _, p => by simp [prs]
  | x :: S, h, p => by
    obtain ⟨h1, h2⟩ := List.pairwise_cons.mp h
    obtain ⟨a, b⟩ := p
    rw [prs, List.mem_append, prs_mem h2]
    simp only [List.mem_map, Prod.mk.injEq, List.mem_cons]
    constructor
    · rintro (⟨y, hy, rfl, rfl⟩ | ⟨h3, h4, h5⟩)
      · exact ⟨.inl rfl, .inr hy, h1 y hy⟩
      · exact ⟨.inr h3, .inr h4, h5⟩
    · rintro ⟨h3 | h3, h4 | h4, h5⟩
      · omega
      · exact .inl ⟨b, h4, h3.symm, rfl⟩
      · have := h1 a h3; omega
      · exact .inr ⟨h3, h4, h5⟩
theorem prs_nodup : ∀ {S : List Nat}, S.Pairwise (· < ·) → (prs S).Nodup
  | [], _ => by simp [prs]
  | x :: S, h => by
    obtain ⟨h1, h2⟩ := List.pairwise_cons.mp h
    rw [prs, List.nodup_append]
    refine ⟨?_, prs_nodup h2, fun a ha b hb e => ?_⟩
    · have hS : S.Nodup := h2.imp fun h => by omega
      exact List.Pairwise.map _ (fun a b hab => by simpa using hab) hS
    · subst e
      obtain ⟨y, hy, rfl⟩ := List.mem_map.mp ha
      have := ((prs_mem h2 _).mp hb).1
      have := h1 _ this
      simp only at this
      omega
theorem prs_len : ∀ S : List Nat, (prs S).length ≤ S.length * S.length
  | [] => by simp [prs]
  | x :: S => by
    have := prs_len S
    simp only [prs, List.length_append, List.length_map, List.length_cons]
    have e : (S.length + 1) * (S.length + 1) = S.length * S.length + 2 * S.length + 1 := by rw [Nat.add_mul, Nat.mul_add]; omega
    omega
def allP (m : List (List Nat)) : List P2 := prs (List.range m.length)
theorem allP_mem {m : List (List Nat)} {p : P2} : p ∈ allP m ↔ PairOk m.length p := by
  unfold allP PairOk
  rw [prs_mem List.pairwise_lt_range]
  simp only [List.mem_range]
  omega
/-- the pairs that letters lead to a pair, or to one room -/
def nbr (m : List (List Nat)) (l : Nat) (o : Option P2) : List P2 := (allP m).flatMap fun p => ((List.range l).filter fun a => decide (behN m p a = o)).map fun _ => p
theorem nbr_mem {m : List (List Nat)} {l : Nat} {o : Option P2} {p : P2} : p ∈ nbr m l o ↔ PairOk m.length p ∧ ∃ a, a < l ∧ behN m p a = o := by
  unfold nbr
  simp only [List.mem_flatMap, List.mem_map, List.mem_filter, List.mem_range, decide_eq_true_eq, allP_mem]
  constructor
  · rintro ⟨q, hq, a, ⟨h1, h2⟩, rfl⟩; exact ⟨hq, a, h1, h2⟩
  · rintro ⟨hq, a, h1, h2⟩; exact ⟨p, hq, a, ⟨h1, h2⟩, rfl⟩
def joinB (m : List (List Nat)) (l : Nat) (p : P2) : Bool := (List.range l).any fun a => decide (behN m p a = none)
theorem joinB_iff {m : List (List Nat)} {l : Nat} {p : P2} : joinB m l p = true ↔ ∃ a, a < l ∧ behN m p a = none := by
  unfold joinB
  simp [List.any_eq_true]
def lnx (m : List (List Nat)) (l : Nat) (c : P2 × Nat) : List (P2 × Nat) := (nbr m l (some c.1)).map fun p => (p, c.2 + 1)
def lsd (m : List (List Nat)) (l : Nat) : List (P2 × Nat) := ((allP m).filter (joinB m l)).map fun p => (p, 1)
theorem lrule (m : List (List Nat)) (l : Nat) : Rule (lnx m l) (· ≤ ·) (lsd m l) where
  two := fun q q' c c' h hc hc' => by
    obtain ⟨p, _, rfl⟩ := List.mem_map.mp hc
    obtain ⟨p', _, rfl⟩ := List.mem_map.mp hc'
    simp only; omega
  own := fun q => by
    unfold lnx
    rw [List.pairwise_map]
    exact pw_all (fun _ _ => Nat.le_refl _) _
  sds := fun s hs q c hc => by
    obtain ⟨p, _, rfl⟩ := List.mem_map.mp hs
    obtain ⟨p', _, rfl⟩ := List.mem_map.mp hc
    simp only; omega
  srt := by
    unfold lsd
    rw [List.pairwise_map]
    exact pw_all (fun _ _ => Nat.le_refl _) _
  nd := by
    unfold keysB lsd
    rw [List.map_map]
    have : ((fun (x : P2 × Nat) => x.1) ∘ fun p => (p, 1)) = id := rfl
    rw [this, List.map_id]
    exact (prs_nodup List.pairwise_lt_range).filter _
/-- all lengths -/
def Lens (m : List (List Nat)) (l : Nat) (fr : List (P2 × Nat)) : Prop := Bfs (lnx m l) (· ≤ ·) (lsd m l) fr.length fr
section
variable {m : List (List Nat)} {l : Nat} {fr : List (P2 × Nat)}
theorem lens_der : ∀ c : P2 × Nat, Der (lnx m l) (lsd m l) c → PairOk m.length c.1 ∧ ∃ w : List Nat, w.length = c.2 ∧ 0 < c.2 ∧ (∀ a ∈ w, a < l) ∧ Mrg m w c.1 := by
  intro c d
  induction d with
  | sd h =>
    obtain ⟨p, hp, rfl⟩ := List.mem_map.mp h
    obtain ⟨h1, h2⟩ := List.mem_filter.mp hp
    obtain ⟨a, ha, hb⟩ := joinB_iff.mp h2
    refine ⟨allP_mem.mp h1, [a], rfl, Nat.one_pos, by simpa using ha, ?_⟩
    rw [mrg_cons, hb]; trivial
  | @go q c _ hc ih =>
    obtain ⟨p, hp, rfl⟩ := List.mem_map.mp hc
    obtain ⟨h1, a, ha, hb⟩ := nbr_mem.mp hp
    obtain ⟨_, w, hw, hw0, hwl, hwm⟩ := ih
    refine ⟨h1, a :: w, by simp [hw], by simp, fun x hx => ?_, ?_⟩
    · rcases List.mem_cons.mp hx with rfl | hx
      · exact ha
      · exact hwl x hx
    · rw [mrg_cons, hb]; exact hwm
theorem der_lens (hm : Mach m l) : ∀ (w : List Nat) (p : P2), PairOk m.length p → (∀ a ∈ w, a < l) → Mrg m w p → ∃ k, k ≤ w.length ∧ Der (lnx m l) (lsd m l) (p, k)
  | [], p, hp, _, h => absurd h (mrg_nil hp)
  | a :: w, p, hp, hw, h => by
    have ha := hw a (by simp)
    rw [mrg_cons] at h
    cases hb : behN m p a with
    | none =>
      refine ⟨1, by simp, .sd (List.mem_map.mpr ⟨p, List.mem_filter.mpr ⟨allP_mem.mpr hp, joinB_iff.mpr ⟨a, ha, hb⟩⟩, rfl⟩)⟩
    | some q =>
      rw [hb] at h
      obtain ⟨k, hk, d⟩ := der_lens hm w q (behN_ok hm hp ha hb) (fun b hb => hw b (by simp [hb])) h
      exact ⟨k + 1, by simp; omega, .go d (List.mem_map.mpr ⟨p, nbr_mem.mpr ⟨hp, a, ha, hb⟩, rfl⟩)⟩
theorem Lens.word (L : Lens m l fr) {p : P2} {k : Nat} (h : (p, k) ∈ fr) : PairOk m.length p ∧ ∃ w : List Nat, w.length = k ∧ 0 < k ∧ (∀ a ∈ w, a < l) ∧ Mrg m w p := lens_der _ (L.dr _ h)
theorem Lens.uniq (L : Lens m l fr) {p : P2} {k j : Nat} (h : (p, k) ∈ fr) (h2 : (p, j) ∈ fr) : k = j := by
  obtain ⟨a, ha, e1⟩ := List.getElem_of_mem h
  obtain ⟨b, hb, e2⟩ := List.getElem_of_mem h2
  have ka : (keysB fr)[a]'(by simpa [keysB] using ha) = p := by simp [keysB, e1]
  have kb : (keysB fr)[b]'(by simpa [keysB] using hb) = p := by simp [keysB, e2]
  have := nd_inj L.nd (by simpa [keysB] using ha) (by simpa [keysB] using hb) (ka.trans kb.symm)
  subst this
  rw [e1] at e2; cases e2; rfl
theorem Lens.least (L : Lens m l fr) (hm : Mach m l) {p : P2} (hp : PairOk m.length p) {w : List Nat} (hw : ∀ a ∈ w, a < l) (h : Mrg m w p) : ∃ k, k ≤ w.length ∧ (p, k) ∈ fr := by
  obtain ⟨k, hk, d⟩ := der_lens hm w p hp hw h
  obtain ⟨⟨p1, k1⟩, h1, e1, h2⟩ := Bfs.least (lt := fun a b : Nat => a ≤ b) (nx := lnx m l) (sd := lsd m l) (fun a b c h1 h2 => Nat.le_trans h1 h2) (fun p v v' c hv hc => by
    obtain ⟨q, hq, rfl⟩ := List.mem_map.mp hc
    exact ⟨(q, v + 1), List.mem_map.mpr ⟨q, hq, rfl⟩, rfl, .inr (by simp only; omega)⟩) L (p, k) d
  simp only at e1
  subst e1
  refine ⟨k1, ?_, h1⟩
  rcases h2 with h2 | h2
  · cases h2; exact hk
  · simp only at h2; omega
/-- no shorter word -/
theorem Lens.short (L : Lens m l fr) (hm : Mach m l) {p : P2} {k : Nat} (h : (p, k) ∈ fr) {w : List Nat} (hw : ∀ a ∈ w, a < l) (hM : Mrg m w p) : k ≤ w.length := by
  obtain ⟨j, hj, h2⟩ := L.least hm (L.word h).1 hw hM
  rw [L.uniq h h2]; exact hj
def lk (fr : List (P2 × Nat)) (p : P2) : Option Nat := (fr.find? fun c => decide (c.1 = p)).map (·.2)
theorem Lens.lk_iff (L : Lens m l fr) {p : P2} {k : Nat} : lk fr p = some k ↔ (p, k) ∈ fr := by
  unfold lk
  constructor
  · intro h
    obtain ⟨⟨q, j⟩, h1, h2⟩ := Option.map_eq_some_iff.mp h
    simp only at h2
    subst h2
    have := List.find?_some h1
    simp only [decide_eq_true_eq] at this
    subst this
    exact List.mem_of_find?_eq_some h1
  · intro h
    cases hf : fr.find? (fun c => decide (c.1 = p)) with
    | none =>
      have := List.find?_eq_none.mp hf (p, k) h
      simp at this
    | some c =>
      obtain ⟨q, j⟩ := c
      have h1 := List.find?_some hf
      simp only [decide_eq_true_eq] at h1
      subst h1
      rw [Option.map_some, L.uniq (List.mem_of_find?_eq_some hf) h]
/-- the letters that lead on -/
def ldL (m : List (List Nat)) (fr : List (P2 × Nat)) (p : P2) (k a : Nat) : Bool := match behN m p a with
  | none => decide (k = 1)
  | some q => decide (lk fr q = some (k - 1)) && decide (1 ≤ k)
theorem Lens.ok (L : Lens m l fr) (hm : Mach m l) {p : P2} {k : Nat} (h : (p, k) ∈ fr) {a : Nat} (ha : a < l) {w : List Nat} (hw : ∀ b ∈ w, b < l) (hl : (a :: w).length = k) (hM : Mrg m (a :: w) p) : ldL m fr p k a = true := by
  unfold ldL
  have hM' := hM
  rw [mrg_cons] at hM
  cases hb : behN m p a with
  | none =>
    have : k ≤ 1 := by
      have := L.short hm h (w := [a]) (by simpa using ha) (by rw [mrg_cons, hb]; trivial)
      simpa using this
    simp at hl
    simp; omega
  | some q =>
    rw [hb] at hM
    simp only at hM
    have hq := behN_ok hm (L.word h).1 ha hb
    obtain ⟨j, hj, h2⟩ := L.least hm hq hw hM
    obtain ⟨_, u, hu, hu0, hul, hum⟩ := L.word h2
    have : k ≤ (a :: u).length := L.short hm h (fun x hx => by
      rcases List.mem_cons.mp hx with rfl | hx
      · exact ha
      · exact hul x hx) (by rw [mrg_cons, hb]; exact hum)
    simp at hl this
    have : j = k - 1 := by omega
    subst this
    simp only [Bool.and_eq_true, decide_eq_true_eq]
    exact ⟨L.lk_iff.mpr h2, by omega⟩
theorem Lens.okx (L : Lens m l fr) {p : P2} {k a : Nat} (hk : ldL m fr p k a = true) : (k = 1 ∧ behN m p a = none) ∨ ∃ q, behN m p a = some q ∧ (q, k - 1) ∈ fr ∧ 2 ≤ k := by
  unfold ldL at hk
  cases hb : behN m p a with
  | none => rw [hb] at hk; exact .inl ⟨by simpa using hk, rfl⟩
  | some q =>
    rw [hb] at hk
    simp only [Bool.and_eq_true, decide_eq_true_eq] at hk
    have h1 := L.lk_iff.mp hk.1
    obtain ⟨_, w, _, h0, _⟩ := L.word h1
    exact .inr ⟨q, rfl, h1, by omega⟩
def firstL (m : List (List Nat)) (l : Nat) (fr : List (P2 × Nat)) (p : P2) (k : Nat) : Nat := ((List.range l).find? fun a => ldL m fr p k a).getD 0
theorem Lens.first (L : Lens m l fr) (hm : Mach m l) {p : P2} {k : Nat} (h : (p, k) ∈ fr) : firstL m l fr p k < l ∧ ldL m fr p k (firstL m l fr p k) = true ∧ ∀ a, a < firstL m l fr p k → ldL m fr p k a = false := by
  obtain ⟨_, w, hw, h0, hwl, hwm⟩ := L.word h
  cases w with
  | nil => simp at hw; omega
  | cons a w =>
    have hok := L.ok hm h (hwl a (by simp)) (fun b hb => hwl b (by simp [hb])) hw hwm
    unfold firstL
    cases hf : (List.range l).find? (fun a => ldL m fr p k a) with
    | none =>
      have := List.find?_eq_none.mp hf a (by simpa using hwl a (by simp))
      rw [hok] at this; exact absurd rfl this
    | some b =>
      rw [Option.getD_some]
      have h1 := List.find?_some hf
      refine ⟨by simpa using List.mem_of_find?_eq_some hf, h1, fun c hc => ?_⟩
      obtain ⟨_, as, bs, e, h3⟩ := List.find?_eq_some_iff_append.mp hf
      have hbm : b < l := by simpa using List.mem_of_find?_eq_some hf
      have : c ∈ as := by
        have hcl : c ∈ List.range l := by simp; omega
        rw [e] at hcl
        rcases List.mem_append.mp hcl with z | z
        · exact z
        · exfalso
          have hp := List.pairwise_lt_range (n := l)
          rw [e] at hp
          have hp2 := (List.pairwise_append.mp hp).2.1
          rcases List.mem_cons.mp z with z | z
          · omega
          · have := (List.pairwise_cons.mp hp2).1 c z; omega
      have := h3 c this
      simpa using this
/-- the first of the shortest words -/
def wdN (m : List (List Nat)) (l : Nat) (fr : List (P2 × Nat)) : Nat → P2 → List Nat
  | 0, _ => []
  | k + 1, p => firstL m l fr p (k + 1) :: match behN m p (firstL m l fr p (k + 1)) with
    | none => []
    | some q => wdN m l fr k q
def lexLe : List Nat → List Nat → Prop
  | [], _ => True
  | _ :: _, [] => False
  | a :: u, b :: v => a < b ∨ a = b ∧ lexLe u v
theorem lexLe_refl : ∀ u : List Nat, lexLe u u
  | [] => trivial
  | a :: u => .inr ⟨rfl, lexLe_refl u⟩
theorem lexLe_anti : ∀ {u v : List Nat}, u.length = v.length → lexLe u v → lexLe v u → u = v
  | [], [], _, _, _ => rfl
  | a :: u, b :: v, hl, h1, h2 => by
    rcases h1 with h1 | ⟨h1, h3⟩
    · rcases h2 with h2 | ⟨h2, _⟩ <;> omega
    · subst h1
      rcases h2 with h2 | ⟨_, h4⟩
      · omega
      · rw [lexLe_anti (by simpa using hl) h3 h4]
  | [], _ :: _, hl, _, _ => by simp at hl
  | _ :: _, [], hl, _, _ => by simp at hl
/-- the first shortest word that leads a pair to one room -/
structure Fst (m : List (List Nat)) (l : Nat) (p : P2) (w : List Nat) : Prop where
  ok : ∀ a ∈ w, a < l
  mrg : Mrg m w p
  least : ∀ u : List Nat, (∀ a ∈ u, a < l) → Mrg m u p → w.length < u.length ∨ w.length = u.length ∧ lexLe w u
theorem Fst.uniq {p : P2} {w v : List Nat} (h : Fst m l p w) (h2 : Fst m l p v) : w = v := by
  rcases h.least v h2.ok h2.mrg with a | ⟨a, b⟩
  · rcases h2.least w h.ok h.mrg with c | ⟨c, _⟩ <;> omega
  · rcases h2.least w h.ok h.mrg with c | ⟨_, d⟩
    · omega
    · exact lexLe_anti a b d
theorem Lens.wd (L : Lens m l fr) (hm : Mach m l) : ∀ (k : Nat) (p : P2), (p, k) ∈ fr → (wdN m l fr k p).length = k ∧ Fst m l p (wdN m l fr k p)
  | 0, p, h => by obtain ⟨_, _, _, h0, _⟩ := L.word h; omega
  | k + 1, p, h => by
    obtain ⟨h1, h2, h3⟩ := L.first hm h
    have hp := (L.word h).1
    unfold wdN
    generalize hA : firstL m l fr p (k + 1) = a at h1 h2 h3
    have low : ∀ (b : Nat) (u : List Nat), (∀ x ∈ b :: u, x < l) → Mrg m (b :: u) p → (b :: u).length = k + 1 → a ≤ b := fun b u hu hM hl => by
      by_cases hab : a ≤ b
      · exact hab
      · have := L.ok hm h (hu b (by simp)) (fun x hx => hu x (by simp [hx])) hl hM
        rw [h3 b (by omega)] at this; cases this
    rcases L.okx h2 with ⟨hk, hb⟩ | ⟨q, hb, hq, hk⟩
    · rw [hb]
      simp only
      have hk0 : k = 0 := by omega
      subst hk0
      refine ⟨rfl, by simpa using h1, by rw [mrg_cons, hb]; trivial, fun u hu hM => ?_⟩
      cases u with
      | nil => exact absurd hM (mrg_nil hp)
      | cons b u =>
        by_cases hu0 : u = []
        · subst hu0
          right
          refine ⟨rfl, ?_⟩
          have := low b [] hu hM rfl
          rcases Nat.lt_or_eq_of_le this with z | z
          · exact .inl z
          · exact .inr ⟨z, trivial⟩
        · left
          cases u with
          | nil => exact absurd rfl hu0
          | cons c u => simp
    · have e : k + 1 - 1 = k := by omega
      rw [e] at hq
      obtain ⟨h4, h5⟩ := L.wd hm k q hq
      rw [hb]
      simp only
      refine ⟨by simp [h4], fun x hx => ?_, by rw [mrg_cons, hb]; exact h5.mrg, fun u hu hM => ?_⟩
      · rcases List.mem_cons.mp hx with rfl | hx
        · exact h1
        · exact h5.ok x hx
      · cases u with
        | nil => exact absurd hM (mrg_nil hp)
        | cons b u =>
          have hs := L.short hm h hu hM
          rcases Nat.lt_or_eq_of_le hs with z | z
          · left; simp [h4] at z ⊢; omega
          · right
            refine ⟨by simp [h4] at z ⊢; omega, ?_⟩
            have := low b u hu hM z.symm
            rcases Nat.lt_or_eq_of_le this with z2 | z2
            · exact .inl z2
            · subst z2
              refine .inr ⟨rfl, ?_⟩
              rw [mrg_cons, hb] at hM
              rcases h5.least u (fun x hx => hu x (by simp [hx])) hM with z3 | ⟨_, z3⟩
              · rw [h4] at z3; simp at z; omega
              · exact z3
end
def behL (m : List (List Nat)) (p : P2) (a : Nat) : P2 := ordP (stp m p.1 a) (stp m p.2 a)
theorem behL_none {m : List (List Nat)} {p : P2} {a : Nat} : behN m p a = none ↔ (behL m p a).1 = (behL m p a).2 := by
  unfold behN behL ordP
  simp only
  split
  · rename_i h; rw [h]; simp
  · rename_i h; simp; omega
theorem behL_some {m : List (List Nat)} {p : P2} {a : Nat} (h : behN m p a ≠ none) : behN m p a = some (behL m p a) ∧ (behL m p a).1 < (behL m p a).2 := by
  unfold behN behL ordP at *
  split at h
  · exact absurd rfl h
  · rename_i hne; rw [if_neg hne]; exact ⟨rfl, by simp only; omega⟩
theorem wc_fltL {α : Type} (emb h : α → D) (p : α → Bool) (ys : List α) {t : Tg} {c : B} {f : E} {lv : List (Nat × Ob)} {ρ : Env} {M : Mem} {Q : List D → Mem → Prop} (hc : chk lv M)
    (step : ∀ y ∈ ys, WEnv (t.put (emb y) ρ) fun ρ' => c ρ' M = some (p y, M) ∧ (p y = true → WE f ρ' M (kIs (h y) M))) (done : Q ((ys.filter p).map h) M) : WC t c f lv ρ (ys.map emb) M Q := by
  refine wc_inv (fun i acc M' => acc = ((ys.take i).filter p).map h ∧ M' = M) ⟨by simp, rfl⟩ (fun _ _ _ _ j => by rw [j.2]; exact hc) (fun i x acc M' hx j => ?_) (fun acc M' j => ?_)
  · obtain ⟨rfl, rfl⟩ := j
    rw [List.getElem?_map] at hx
    obtain ⟨y, e1, rfl⟩ := Option.map_eq_some_iff.mp hx
    obtain ⟨hi, rfl⟩ := List.getElem?_eq_some_iff.mp e1
    obtain ⟨ρ', e2, e4, h3⟩ := step ys[i] (List.getElem_mem hi)
    refine ⟨ρ', e2, _, M', e4, ?_⟩
    cases hp : p ys[i] with
    | true =>
      obtain ⟨r, M', e3, rfl, rfl⟩ := h3 hp
      refine ⟨_, _, e3, ?_, rfl⟩
      rw [List.take_add_one, List.filter_append, List.map_append]
      simp [hi, hp]
    | false =>
      refine ⟨?_, rfl⟩
      rw [List.take_add_one, List.filter_append, List.map_append]
      simp [hi, hp]
  · obtain ⟨rfl, rfl⟩ := j
    rw [List.length_map, List.take_length]
    exact done
theorem zip_nn : ∀ (u v : List Nat), zipD (nats u) (nats v) = (u.zip v).map fun p => D.par [.int ((p.1 : Nat) : Int), .int ((p.2 : Nat) : Int)]
  | [], v => by simp [nats, zipD]
  | a :: u, [] => by simp [nats, zipD]
  | a :: u, b :: v => by
    have := zip_nn u v
    simp only [nats] at this
    simp [nats, zipD, this]
theorem zip_rows {m : List (List Nat)} {l : Nat} (hm : Mach m l) {x y : Nat} (h1 : x < m.length) (h2 : y < m.length) (M : Mem) : zipOf (.v (tN m[x])) (.v (tN m[y])) M = some ⟨(List.range l).map fun a => D.par [.int ((stp m x a : Nat) : Int), .int ((stp m y a : Nat) : Int)], []⟩ := by
  have hr1 := hm.row h1
  have hr2 := hm.row h2
  simp only [zipOf, tN]
  congr 2
  rw [zip_nn]
  apply List.ext_getElem
  · simp; omega
  · intro j h1' h2'
    have hj : j < l := by simpa using h2'
    simp only [List.getElem_map, List.getElem_zip, List.getElem_range, stp_eq hm h1 hj, stp_eq hm h2 hj]
theorem enum_rg (f : Nat → D) (l : Nat) : enumD 0 ((List.range l).map f) = (List.range l).map fun a => D.par [.int ((a : Nat) : Int), f a] := by
  apply List.ext_getElem?
  intro i
  rw [List.getElem?_map]
  by_cases hi : i < l
  · have hi' : i < (enumD 0 ((List.range l).map f)).length := by rw [enumD_len]; simpa using hi
    obtain ⟨x, e1, e2⟩ := enumD_get (List.getElem?_eq_getElem hi')
    rw [List.getElem?_eq_getElem hi', e2, List.getElem?_range hi]
    rw [List.getElem?_map, List.getElem?_range hi] at e1
    simp at e1
    simp [e1]
  · rw [List.getElem?_eq_none (by rw [enumD_len]; simp; omega), List.getElem?_eq_none (by simp; omega)]; rfl
theorem enum_rf {n l : Nat} {f : Nat → D} {M : Mem} (h : M[n]? = some (.lst ((List.range l).map f))) : enumOf (.v (.ref n)) M = some ⟨(List.range l).map fun a => D.par [.int ((a : Nat) : Int), f a], [(n, .lst ((List.range l).map f))]⟩ := by
  simp only [enumOf, lsrc, h, Option.bind_some, enum_rg]
theorem eq_nilN {q : Nat} {w : List Nat} {M : Mem} (h : M[q]? = some (.lst (nats w))) : eqF (.v (.ref q)) (.o (.lst [])) M = some (.v (.bl (decide (w = []))), M) := by
  have ho : okD 64 (.fl (nats w)) = true := by simp only [okD]; exact okL_nats _ _
  have ho2 : okD 64 (.fl []) = true := by simp [okD, okL]
  simp only [eqF, form_ref h, form_ol, Option.bind_some, if_pos (And.intro ho ho2)]
  cases w <;> simp [nats, D.eqb, eqbL]
theorem isi_tt (xs : List D) (M : Mem) : isiF .tuple (.v (.tup xs)) M = some (.v (.bl true), M) := by simp [isiF, tyOf, isiB]
theorem isi_ttN (w : List Nat) (M : Mem) : isiF .tuple (.v (tN w)) M = some (.v (.bl true), M) := by simp [isiF, tN, tyOf, isiB]
theorem ix_rf {q : Nat} {xs : List D} {i : Nat} {d : D} {M : Mem} (hq : M[q]? = some (.lst xs)) (h : xs[i]? = some d) : ixF (.v (.ref q)) (.v (.int (i : Int))) M = some (.v d, M) := by
  have e := ix_tup (ds := xs) h M
  simp only [ixF, seqOf, hq] at e ⊢
  exact e
noncomputable def reached_F1 (ρ : Env) (m : Mem) : Option R := (sIf (bOf (eBin (inF true) (eVar 4) (eVar 2))) (sDo (eMt1 "list" appF (eVar 2) (eVar 4))) sNil) ρ m
theorem w_reached_F1 {ρ : Env} {M : Mem} {Q : R → Prop} : WS reached_F1 ρ M Q ↔ WS (sIf (bOf (eBin (inF true) (eVar 4) (eVar 2))) (sDo (eMt1 "list" appF (eVar 2) (eVar 4))) sNil) ρ M Q := Iff.rfl
noncomputable def reached_T1 (ρ : Env) (m : Mem) : Option (Bool × Mem) := (bOf (eBin ltF (eVar 3) (eUn lenF (eVar 2)))) ρ m
theorem w_reached_T1 {ρ : Env} {M : Mem} {Q : Bool → Mem → Prop} : WB reached_T1 ρ M Q ↔ WB (bOf (eBin ltF (eVar 3) (eUn lenF (eVar 2)))) ρ M Q := Iff.rfl
noncomputable def reached_W1 (ρ : Env) (m : Mem) : Option R := (sSeq (sFor (iE (eBin ixF (eVar 0) (eBin ixF (eVar 2) (eVar 3)))) (gT (.nm 4)) reached_F1)
    (sAug 3 augAdd (eC (.int 1)))) ρ m
theorem w_reached_W1 {ρ : Env} {M : Mem} {Q : R → Prop} : WS reached_W1 ρ M Q ↔ WS (sSeq (sFor (iE (eBin ixF (eVar 0) (eBin ixF (eVar 2) (eVar 3)))) (gT (.nm 4)) reached_F1)
    (sAug 3 augAdd (eC (.int 1)))) ρ M Q := Iff.rfl
noncomputable def m_reached : Fn := fnD 2 5
    (sSeq (sSet 2 (eLst (aCons (eVar 1) aNil)))
    (sSeq (sSet 3 (eC (.int 0)))
    (sSeq (sWhile reached_T1 reached_W1)
    (sRet (eUn tupF (eUn srtF (eVar 2)))))))
noncomputable def closed_parts_E1 (ρ : Env) (m : Mem) : Option (Out × Mem) := (eBin (inF false) (eVar 2) (eCall m_reached (aCons (eVar 0) (aCons (eVar 4) aNil)))) ρ m
theorem w_closed_parts_E1 {ρ : Env} {M : Mem} {Q : PO2} : WE closed_parts_E1 ρ M Q ↔ WE (eBin (inF false) (eVar 2) (eCall m_reached (aCons (eVar 0) (aCons (eVar 4) aNil)))) ρ M Q := Iff.rfl
noncomputable def closed_parts_F1 (ρ : Env) (m : Mem) : Option R := (sSeq (sSet 3 (eCall m_reached (aCons (eVar 0) (aCons (eVar 2) aNil))))
    (sIf (bAnd (bOf (eBin (inF true) (eVar 3) (eVar 1))) (bOf (eUn allF (eComp (iE (eVar 3)) [4] (.nm 4) bYes closed_parts_E1)))) (sDo (eMt1 "list" appF (eVar 1) (eVar 3))) sNil)) ρ m
theorem w_closed_parts_F1 {ρ : Env} {M : Mem} {Q : R → Prop} : WS closed_parts_F1 ρ M Q ↔ WS (sSeq (sSet 3 (eCall m_reached (aCons (eVar 0) (aCons (eVar 2) aNil))))
    (sIf (bAnd (bOf (eBin (inF true) (eVar 3) (eVar 1))) (bOf (eUn allF (eComp (iE (eVar 3)) [4] (.nm 4) bYes closed_parts_E1)))) (sDo (eMt1 "list" appF (eVar 1) (eVar 3))) sNil)) ρ M Q := Iff.rfl
noncomputable def m_closed_parts : Fn := fnD 1 5
    (sSeq (sSet 1 (eLst aNil))
    (sSeq (sFor (iRg1 (eUn lenF (eVar 0))) (gT (.nm 2)) closed_parts_F1)
    (sRet (eUn tupF (eUn srtF (eVar 1))))))
/-! ### where ways lead -/
def Rch (W : List (List Nat)) (l : Nat) (x y : Nat) : Prop := ∃ w : List Nat, (∀ a ∈ w, a < l) ∧ ledN W x w = y
open Classical in
noncomputable def rchS (W : List (List Nat)) (l : Nat) (x : Nat) : List Nat := (List.range W.length).filter fun y => decide (Rch W l x y)
section
variable {W : List (List Nat)} {l : Nat}
theorem Rch.refl (x : Nat) : Rch W l x x := ⟨[], by simp, rfl⟩
theorem Rch.step {x y a : Nat} (h : Rch W l x y) (ha : a < l) : Rch W l x (stp W y a) := by
  obtain ⟨w, hw, rfl⟩ := h
  exact ⟨w ++ [a], fun b hb => by rcases List.mem_append.mp hb with hb | hb; exact hw b hb; simp at hb; subst hb; exact ha, by simp [ledN, List.foldl_append]⟩
theorem Rch.trans {x y z : Nat} (h : Rch W l x y) (k : Rch W l y z) : Rch W l x z := by
  obtain ⟨w, hw, rfl⟩ := h
  obtain ⟨u, hu, rfl⟩ := k
  exact ⟨w ++ u, fun b hb => by rcases List.mem_append.mp hb with hb | hb; exact hw b hb; exact hu b hb, by simp [ledN, List.foldl_append]⟩
theorem rchS_mem {x y : Nat} : y ∈ rchS W l x ↔ y < W.length ∧ Rch W l x y := by simp [rchS]
theorem rchS_lt (W : List (List Nat)) (l x : Nat) : (rchS W l x).Pairwise (· < ·) := List.Pairwise.filter _ List.pairwise_lt_range
theorem rchS_nd (W : List (List Nat)) (l x : Nat) : (rchS W l x).Nodup := (rchS_lt W l x).imp fun h => Nat.ne_of_lt h
/-- a list closed under ways holds all -/
theorem closed_all {F : List Nat} {x : Nat} (hx : x ∈ F) (hc : ∀ y ∈ F, ∀ a, a < l → stp W y a ∈ F) {y : Nat} (h : Rch W l x y) : y ∈ F := by
  obtain ⟨w, hw, rfl⟩ := h
  have : ∀ (w : List Nat) (z : Nat), z ∈ F → (∀ a ∈ w, a < l) → ledN W z w ∈ F := by
    intro w
    induction w with
    | nil => intro z hz _; exact hz
    | cons a w ih => intro z hz hw; exact ih _ (hc z hz a (hw a (by simp))) fun b hb => hw b (by simp [hb])
  exact this w x hx hw
theorem rchS_perm {F : List Nat} {x : Nat} (hn : F.Nodup) (hm : ∀ y, y ∈ F ↔ y < W.length ∧ Rch W l x y) : (rchS W l x).Perm F :=
  (List.perm_ext_iff_of_nodup (rchS_nd W l x) hn).mpr fun y => by rw [rchS_mem, hm]
end
theorem srt_nats {F S : List Nat} (hp : S.Perm F) (hs : S.Pairwise (· < ·)) (hl : F.length ≤ 90000) {x : Out} {M : Mem} (hx : seqOf x M = some (nats F)) : srtF x M = some (.o (.lst (nats S)), M) :=
  srtF_of ordd_nat (fun a b h1 h2 => by omega) (.inr fun a => ⟨by simp [D.pd], by simp [D.pd]⟩) (by omega) hp (hs.imp fun h => by omega) hx
theorem nodup_lenN : ∀ {l U : List Nat}, l.Nodup → (∀ x ∈ l, x ∈ U) → l.length ≤ U.length
  | [], _, _, _ => by simp
  | x :: l, U, h, hs => by
    obtain ⟨h1, h2⟩ := List.nodup_cons.mp h
    have hx : x ∈ U := hs x (by simp)
    have := nodup_lenN (l := l) (U := U.erase x) h2 fun y hy => (List.mem_erase_of_ne (fun z => h1 (by subst z; exact hy))).mpr (hs y (by simp [hy]))
    rw [List.length_erase_of_mem hx] at this
    have : 0 < U.length := List.length_pos_of_mem hx
    simp only [List.length_cons]
    omega
theorem nd_len {n : Nat} {F : List Nat} (hn : F.Nodup) (h : ∀ y ∈ F, y < n) : F.length ≤ n := by
  have := nodup_lenN (U := List.range n) hn fun y hy => List.mem_range.mpr (h y hy)
  simpa using this
theorem reached_w {W : List (List Nat)} {l : Nat} (hW : Mach W l) (hb : W.length ≤ 1000) {x : Nat} (hx : x < W.length) {M : Mem} {K : PO2} (k : K (.v (tN (rchS W l x))) M) : WO (m_reached [tM W, .int (x : Int)] M) K := by
  unfold m_reached
  simp only [wp, wx, wf, Nat.reduceSub]
  have hg : ∀ u : Ob, (M ++ [u])[M.length]? = some u := fun u => get_end rfl
  refine wfu (fun n ρ M' => ∃ (F : List Nat) (at_ : Nat), M' = M ++ [.lst (nats F)] ∧ F.Nodup ∧ (∀ y ∈ F, y < W.length ∧ Rch W l x y) ∧ x ∈ F ∧ at_ ≤ F.length ∧ (∀ j (hj : j < F.length), j < at_ → ∀ a, a < l → stp W F[j] a ∈ F) ∧ n = W.length - at_ ∧ ∃ x4, ρ = [some (tM W), some (.int (x : Int)), some (.ref M.length), some (.int (at_ : Int)), x4]) (n0 := W.length) (by omega) ⟨[x], 0, rfl, by simp, by simp [hx, Rch.refl], by simp, by simp, by simp, rfl, none, rfl⟩ (fun n ρ M' j => ?_)
  obtain ⟨F, at_, rfl, hnd, hF, hxF, hat, hcl, rfl, x4, rfl⟩ := j
  have hFl := nd_len hnd fun y hy => (hF y hy).1
  simp only [wp, wx, w_reached_T1, len_ref (hg _), ltF, cmp_int, List.length_map]
  by_cases hlt : at_ < F.length
  · have hlt' : (at_ : Int) < (F.length : Int) := by omega
    have hyl := (hF _ (List.getElem_mem hlt)).1
    have hyr := (hF _ (List.getElem_mem hlt)).2
    have hrow := hW.row hyl
    simp only [hlt', decide_true, kWh_t, wp, wx, w_reached_W1, ixn_at (hg _) hlt, ix_row hyl, src_tN, nats]
    refine wl_typ (fun (r : Nat) => D.int (r : Int)) W[F[at_]] (fun i ρ M' => ∃ ext : List Nat, M' = M ++ [.lst (nats (F ++ ext))] ∧ (F ++ ext).Nodup ∧ (∀ y ∈ F ++ ext, y < W.length ∧ Rch W l x y) ∧ (∀ a (ha : a < W[F[at_]].length), a < i → W[F[at_]][a] ∈ F ++ ext) ∧ ∃ x4, ρ = [some (tM W), some (.int (x : Int)), some (.ref M.length), some (.int (at_ : Int)), x4]) ⟨[], by simp, by simpa using hnd, by simpa using hF, by simp, x4, rfl⟩ (fun i hi ρ M' j => ?_) (fun ρ M' j => ?_)
    · obtain ⟨ext, rfl, hnd2, hF2, hdone, y4, rfl⟩ := j
      have hl2 := nd_len hnd2 fun y hy => (hF2 y hy).1
      simp only [wp, wx, w_reached_F1, in_list (hg _), if_true]
      by_cases hin : W[F[at_]][i] ∈ F ++ ext
      · simp only [hin, decide_true, Bool.not_true, wp, wx]
        refine ⟨ext, rfl, hnd2, hF2, fun a ha hai => ?_, _, rfl⟩
        by_cases e : a = i
        · subst e; exact hin
        · exact hdone a ha (by omega)
      · simp only [hin, decide_false, Bool.not_false, wp, wx, isT_ref (hg _), app_ref (hg _) (show (nats (F ++ ext)).length ≤ 90000 by simp only [List.length_map]; omega), set_end rfl]
        have eapp : nats (F ++ ext) ++ [D.int ((W[F[at_]][i] : Nat) : Int)] = nats (F ++ (ext ++ [W[F[at_]][i]])) := by simp [nats]
        refine ⟨ext ++ [W[F[at_]][i]], by rw [← eapp], ?_, fun y hy => ?_, fun a ha hai => ?_, _, rfl⟩
        · rw [← List.append_assoc, List.nodup_append]
          exact ⟨hnd2, by simp, fun a ha b hb => by simp at hb; subst hb; exact fun z => hin (z ▸ ha)⟩
        · rw [← List.append_assoc] at hy
          rcases List.mem_append.mp hy with hy | hy
          · exact hF2 y hy
          · simp at hy; subst hy
            refine ⟨hW.lt _ (List.getElem_mem hyl) _ (List.getElem_mem hi), ?_⟩
            have := hyr.step (a := i) (by omega)
            rw [stp_eq hW hyl (by omega)] at this
            exact this
        · rw [← List.append_assoc]
          by_cases e : a = i
          · subst e; simp
          · exact List.mem_append.mpr (.inl (hdone a ha (by omega)))
    · obtain ⟨ext, rfl, hnd2, hF2, hdone, y4, rfl⟩ := j
      have e1 : (at_ : Int) + 1 = ((at_ + 1 : Nat) : Int) := by omega
      simp only [wp, wx, augAdd, e1]
      refine ⟨W.length - (at_ + 1), by omega, F ++ ext, at_ + 1, rfl, hnd2, hF2, by simp [hxF], by simp; omega, fun j hj hja a ha => ?_, rfl, _, rfl⟩
      have hjF : j < F.length := by omega
      rw [List.getElem_append_left hjF]
      by_cases e : j = at_
      · subst e
        rw [stp_eq hW hyl ha]
        exact hdone a (by omega) (by omega)
      · exact List.mem_append.mpr (.inl (hcl j hjF (by omega) a ha))
  · have hlt' : ¬ (at_ : Int) < (F.length : Int) := by omega
    have hclo : ∀ y ∈ F, ∀ a, a < l → stp W y a ∈ F := fun y hy a ha => by
      obtain ⟨j, hj, rfl⟩ := List.getElem_of_mem hy
      exact hcl j hj (by omega) a ha
    have hp : (rchS W l x).Perm F := rchS_perm hnd fun y => ⟨hF y, fun h => closed_all hxF hclo h.2⟩
    have es := srt_nats hp (rchS_lt W l x) (by omega) (x := .v (.ref M.length)) (M := M ++ [.lst (nats F)]) (by simp [seqOf, hg])
    simp only [hlt', decide_false, kWh_f, wp, wx, es, tup_ol]
    rw [kFn_va (d := .tup (nats (rchS W l x))) (by show D.lo _ (tN _); simp)]
    exact k
/-! closed parts -/
open Classical in
noncomputable def cpN (W : List (List Nat)) (l : Nat) : Nat → List (List Nat)
  | 0 => []
  | i + 1 => if rchS W l i ∉ cpN W l i ∧ ∀ y ∈ rchS W l i, i ∈ rchS W l y then cpN W l i ++ [rchS W l i] else cpN W l i
theorem cpN_len (W : List (List Nat)) (l : Nat) : ∀ i, (cpN W l i).length ≤ i
  | 0 => by simp [cpN]
  | i + 1 => by
    have := cpN_len W l i
    unfold cpN
    split
    · simp; omega
    · omega
theorem cpN_mem (W : List (List Nat)) (l : Nat) : ∀ i, ∀ s ∈ cpN W l i, ∃ x, x < i ∧ s = rchS W l x
  | 0 => by simp [cpN]
  | i + 1 => fun s hs => by
    unfold cpN at hs
    split at hs
    · rcases List.mem_append.mp hs with hs | hs
      · obtain ⟨x, hx, e⟩ := cpN_mem W l i s hs; exact ⟨x, by omega, e⟩
      · simp at hs; exact ⟨i, by omega, hs⟩
    · obtain ⟨x, hx, e⟩ := cpN_mem W l i s hs; exact ⟨x, by omega, e⟩
theorem eqb_tN (a b : List Nat) : (tN a).eqb (tN b) = decide (a = b) := by
  simp only [tN, D.eqb]
  induction a generalizing b with
  | nil => cases b <;> simp [nats, eqbL]
  | cons x a ih =>
    cases b with
    | nil => simp [nats, eqbL]
    | cons y b =>
      have := ih b
      simp only [nats, List.map_cons, eqbL, eqb_int] at this ⊢
      rw [this, Bool.eq_iff_iff]
      simp only [Bool.and_eq_true, decide_eq_true_eq, List.cons.injEq]
      constructor
      · rintro ⟨h1, h2⟩; exact ⟨by omega, h2⟩
      · rintro ⟨h1, h2⟩; exact ⟨by omega, h2⟩
theorem okL_tNs : ∀ P : List (List Nat), okL 63 (P.map tN) = true
  | [] => rfl
  | p :: P => by
    rw [List.map_cons, okL, okL_tNs P, Bool.and_true]
    simp only [tN, okD]; exact okL_nats _ _
theorem any_tNs (P : List (List Nat)) (p : List Nat) : ((P.map tN).any fun d => d.eqb (tN p)) = decide (p ∈ P) := by
  induction P with
  | nil => rfl
  | cons q P ih =>
    rw [List.map_cons, List.any_cons, ih, eqb_tN, Bool.eq_iff_iff]
    simp only [Bool.or_eq_true, decide_eq_true_eq, List.mem_cons]
    exact or_congr_left eq_comm
theorem in_tNs {P : List (List Nat)} {q : Nat} {M : Mem} (h : M[q]? = some (.lst (P.map tN))) (p : List Nat) (neg : Bool) : inF neg (.v (tN p)) (.v (.ref q)) M = some (.v (.bl (if neg then !decide (p ∈ P) else decide (p ∈ P))), M) := by
  have hf : ¬ (flatD (tN p) = true ∧ (P.map tN).all flatD = true) := by rintro ⟨h, _⟩; simp [tN, flatD] at h
  have ho : okD 64 (tN p) = true ∧ okL 63 (P.map tN) = true := ⟨by simp only [tN, okD]; exact okL_nats _ _, okL_tNs P⟩
  have hform : form (.v (tN p)) M = some (tN p) := rfl
  have hseq : seqOf (.v (.ref q)) M = some (P.map tN) := by simp [seqOf, h]
  simp only [inF, hform, hseq, Option.bind_some, if_neg hf, if_pos ho, any_tNs]
theorem in_tN (w : List Nat) (x : Nat) (neg : Bool) (M : Mem) : inF neg (.v (.int (x : Int))) (.v (tN w)) M = some (.v (.bl (if neg then !decide (x ∈ w) else decide (x ∈ w))), M) := by
  have hf : flatD (.int (x : Int)) = true ∧ (nats w).all flatD = true := ⟨rfl, by simp [nats, flatD]⟩
  simp only [inF, tN, form, seqOf, Option.bind_some, if_pos hf, any_nats]
theorem alike_natsL : ∀ a b : List Nat, PySem.W.alikeAll (pdL (nats a)) (pdL (nats b)) = true
  | [], _ => by simp [nats, pdL, PySem.W.alikeAll]
  | _ :: _, [] => by simp [nats, pdL, PySem.W.alikeAll]
  | x :: a, y :: b => by
    have := alike_natsL a b
    simp only [nats] at this
    simp [nats, pdL, D.pd, PySem.W.alikeAll, PySem.W.alike, this]
theorem alike_nats (a b : List Nat) : PySem.W.alike (tN a).pd (tN b).pd = true := by
  simp only [tN, D.pd, PySem.W.alike]
  exact alike_natsL a b
theorem srt_parts {P : List (List Nat)} (hne : ∀ p ∈ P, p ≠ []) (hl : P.length ≤ 90000) {x : Out} {M : Mem} (hx : seqOf x M = some (P.map tN)) : srtF x M = some (.o (.lst ((P.map tN).mergeSort leD)), M) := by
  have hok : SrtOk (P.map tN) := by
    refine ⟨?_, fun d hd e he => ?_, .inl fun d hd => ?_, fits_of (by rw [List.length_map]; omega)⟩
    · have : ∀ P : List (List Nat), okL 60 (P.map tN) = true := fun P => by
        induction P with
        | nil => rfl
        | cons p P ih =>
          rw [List.map_cons, okL, ih, Bool.and_true]
          simp only [tN, okD]; exact okL_nats _ _
      exact this P
    · rw [List.map_map] at hd he
      obtain ⟨a, _, rfl⟩ := List.mem_map.mp hd
      obtain ⟨b, _, rfl⟩ := List.mem_map.mp he
      exact alike_nats a b
    · rw [List.map_map] at hd
      obtain ⟨a, ha, rfl⟩ := List.mem_map.mp hd
      cases a with
      | nil => exact absurd rfl (hne [] ha)
      | cons y ys => exact ⟨_, _, rfl⟩
  unfold srtF
  rw [hx, Option.bind_some, if_pos hok]
theorem closed_parts_w {W : List (List Nat)} {l : Nat} (hW : Mach W l) (hb : W.length ≤ 1000) {M : Mem} {K : PO2} (k : K (.v (.tup (((cpN W l W.length).map tN).mergeSort leD))) M) : WO (m_closed_parts [tM W] M) K := by
  classical
  unfold m_closed_parts
  simp only [wp, wx, wf, Nat.reduceSub, len_tM]
  refine ⟨rg_nat (by omega), ?_⟩
  rw [Int.toNat_natCast]
  have hg : ∀ u : Ob, (M ++ [u])[M.length]? = some u := fun u => get_end rfl
  refine wl_rg0 (fun i ρ M' => M' = M ++ [.lst ((cpN W l i).map tN)] ∧ ∃ x2 x3, ρ = [some (tM W), some (.ref M.length), x2, x3, none]) ⟨rfl, none, none, rfl⟩ (fun i ρ M' hi j => ?_) (fun ρ M' j => ?_)
  · obtain ⟨rfl, x2, x3, rfl⟩ := j
    have hcl := cpN_len W l i
    simp only [wp, wx, w_closed_parts_F1]
    refine reached_w hW hb hi ?_
    simp only [wp, wx, in_tNs (hg _), if_true]
    by_cases hin : rchS W l i ∈ cpN W l i
    · simp only [hin, decide_true, Bool.not_true, wp, wx]
      refine ⟨?_, _, _, rfl⟩
      rw [cpN, if_neg (fun z => z.1 hin)]
    · simp only [hin, decide_false, Bool.not_false, wp, wx, src_tN, nats]
      refine wc_map (fun (r : Nat) => D.int (r : Int)) (fun (y : Nat) => D.bl (decide (i ∈ rchS W l y))) (rchS W l i) (fun y hy => ?_) ?_
      · simp only [wp, wx, w_closed_parts_E1]
        refine reached_w hW hb (rchS_mem.mp hy).1 ?_
        simp only [wp, wx, in_tN, Bool.false_eq_true, if_false]
        exact ⟨rfl, rfl⟩
      · have eall : ∀ M : Mem, allF (.o (.lst ((rchS W l i).map fun y => D.bl (decide (i ∈ rchS W l y))))) M = some (.v (.bl ((rchS W l i).all fun y => decide (i ∈ rchS W l y))), M) := fun M => by
          have : ∀ ys : List Nat, blsOf (ys.map fun y => D.bl (decide (i ∈ rchS W l y))) = some (ys.map fun y => decide (i ∈ rchS W l y)) := fun ys => by
            induction ys with
            | nil => rfl
            | cons y ys ih => simp [blsOf, ih]
          simp [allF, lstOf, this, Function.comp_def]
        simp only [wp, wx, eall]
        cases hall : (rchS W l i).all fun y => decide (i ∈ rchS W l y) with
        | false =>
          simp only [wp, wx]
          refine ⟨?_, _, _, rfl⟩
          rw [cpN, if_neg]
          rintro ⟨_, h⟩
          have : ((rchS W l i).all fun y => decide (i ∈ rchS W l y)) = true := List.all_eq_true.mpr fun y hy => by simpa using h y hy
          rw [this] at hall; cases hall
        | true =>
          simp only [wp, wx, isT_ref (hg _), app_ref (hg _) (show ((cpN W l i).map tN).length ≤ 90000 by simp; omega), set_end rfl]
          refine ⟨?_, _, _, rfl⟩
          rw [cpN, if_pos ⟨hin, fun y hy => by simpa using List.all_eq_true.mp hall y hy⟩]
          simp
  · obtain ⟨rfl, x2, x3, rfl⟩ := j
    have hcl := cpN_len W l W.length
    have hne : ∀ p ∈ cpN W l W.length, p ≠ [] := fun p hp e => by
      obtain ⟨x, hx, rfl⟩ := cpN_mem W l _ p hp
      have : x ∈ rchS W l x := rchS_mem.mpr ⟨hx, Rch.refl x⟩
      rw [e] at this; simp at this
    have es := srt_parts hne (by omega) (x := .v (.ref M.length)) (M := M ++ [.lst ((cpN W l W.length).map tN)]) (by simp [seqOf, hg])
    simp only [wp, wx, es, tup_ol]
    rw [kFn_va (by
      simp only [lo_tup, loL_iff]
      intro d hd
      obtain ⟨p, _, rfl⟩ := List.mem_map.mp ((List.mergeSort_perm _ _).mem_iff.mp hd)
      simp)]
    exact k
/-! ### dicts by their entries: what is held behind a store -/
open Classical in
theorem dlook_nil (k : D) : dlook [] k = none := rfl
open Classical in
theorem dlook_cons (p : D × D) (r : List (D × D)) (k : D) : dlook (p :: r) k = if p.1 = k then some p.2 else dlook r k := by
  unfold dlook
  by_cases h : p.1 = k
  · rw [List.find?_cons_of_pos (by simp [h]), if_pos h]; rfl
  · rw [List.find?_cons_of_neg (by simp [h]), if_neg h]
open Classical in
theorem dlook_app (r : List (D × D)) (k j v : D) : dlook (r ++ [(k, v)]) j = match dlook r j with | some u => some u | none => if k = j then some v else none := by
  induction r with
  | nil => rw [List.nil_append, dlook_cons, dlook_nil]
  | cons p r ih =>
    rw [List.cons_append, dlook_cons, dlook_cons]
    by_cases h : p.1 = j
    · rw [if_pos h, if_pos h]
    · rw [if_neg h, if_neg h]; exact ih
open Classical in
theorem dlook_put (r : List (D × D)) (k j v : D) : dlook (r.map fun p => if p.1 = k then (p.1, v) else p) j = if j = k then (dlook r k).map (fun _ => v) else dlook r j := by
  induction r with
  | nil => simp [dlook_nil]
  | cons p r ih =>
    rw [List.map_cons, dlook_cons, ih]
    by_cases hp : p.1 = k
    · rw [if_pos hp]
      by_cases hj : j = k
      · subst hj
        rw [if_pos (show (p.1, v).1 = j from hp), if_pos rfl, dlook_cons, if_pos hp]; rfl
      · rw [if_neg (show ¬ (p.1, v).1 = j from fun z => hj (z.symm.trans hp)), if_neg hj, if_neg hj, dlook_cons, if_neg (fun z => hj (z.symm.trans hp))]
    · rw [if_neg hp]
      by_cases hj : j = k
      · subst hj
        rw [if_neg hp, if_pos rfl, if_pos rfl, dlook_cons, if_neg hp]
      · rw [if_neg hj, if_neg hj, dlook_cons]
open Classical in
theorem dlook_sto (r : List (D × D)) (k j v : D) : dlook (dsto r k v) j = if j = k then some v else dlook r j := by
  unfold dsto
  by_cases h : (dlook r k).isSome = true
  · rw [if_pos h, dlook_put]
    obtain ⟨u, hu⟩ := Option.isSome_iff_exists.mp h
    rw [hu]; rfl
  · rw [if_neg h, dlook_app]
    have hn : dlook r k = none := by cases q : dlook r k with | none => rfl | some _ => rw [q] at h; exact absurd rfl h
    by_cases hj : j = k
    · subst hj; rw [hn, if_pos rfl]
    · rw [if_neg hj]
      cases dlook r j with
      | none => simp only; rw [if_neg (fun z => hj z.symm)]
      | some u => rfl
theorem dsto_new {r : List (D × D)} {k v : D} (h : dlook r k = none) : dsto r k v = r ++ [(k, v)] := by unfold dsto; rw [h]; rfl
theorem dsto_len (r : List (D × D)) (k v : D) : (dsto r k v).length ≤ r.length + 1 := by
  unfold dsto; split <;> simp
/-- a dict of lists that grows by setdefault and append -/
structure Grp (lo : Nat) (M : Mem) (a : Nat) (f : D → List D) (n : Nat) : Prop where
  ex : ∃ kvs, M[a]? = some (.dcr kvs) ∧ kvs.length ≤ n ∧ (∀ key v, dlook kvs key = some v → ∃ j, v = .ref j ∧ lo ≤ j ∧ j ≠ a ∧ M[j]? = some (.lst (f key)) ∧ f key ≠ []) ∧ (∀ key, dlook kvs key = none → f key = []) ∧
    ∀ k1 k2 j, dlook kvs k1 = some (.ref j) → dlook kvs k2 = some (.ref j) → k1 = k2
/-- what stands below lo stays -/
def Low (lo : Nat) (M M' : Mem) : Prop := M.length ≤ M'.length ∧ ∀ i, i < lo → M'[i]? = M[i]?
theorem Low.refl (lo : Nat) (M : Mem) : Low lo M M := ⟨Nat.le_refl _, fun _ _ => rfl⟩
theorem Low.trans {lo : Nat} {M M1 M2 : Mem} (h : Low lo M M1) (k : Low lo M1 M2) : Low lo M M2 := ⟨Nat.le_trans h.1 k.1, fun i hi => (k.2 i hi).trans (h.2 i hi)⟩
theorem Low.app {M M' : Mem} (h : Low M.length M M') : ∃ e, M' = M ++ e := by
  refine ⟨M'.drop M.length, ?_⟩
  apply List.ext_getElem?
  intro i
  by_cases hi : i < M.length
  · rw [h.2 i hi, List.getElem?_append_left hi]
  · rw [List.getElem?_append_right (by omega), List.getElem?_drop]; congr 1; omega
theorem low_set {lo n : Nat} {M : Mem} {o : Ob} (h : lo ≤ n) : Low lo M (M.set n o) := ⟨by simp, fun i hi => by rw [List.getElem?_set_ne (by omega)]⟩
theorem low_app {lo : Nat} {M e : Mem} (h : lo ≤ M.length) : Low lo M (M ++ e) := ⟨by simp, fun i hi => by rw [List.getElem?_append_left (by omega)]⟩
/-- the same but for the place a -/
def LowA (lo a : Nat) (M M' : Mem) : Prop := M.length ≤ M'.length ∧ ∀ i, i < lo → i ≠ a → M'[i]? = M[i]?
theorem LowA.low {lo a : Nat} {M M' : Mem} (h : LowA lo a M M') (ha : lo ≤ a) : Low lo M M' := ⟨h.1, fun i hi => h.2 i hi (by omega)⟩
theorem LowA.trans {lo a : Nat} {M M1 M2 : Mem} (h : LowA lo a M M1) (k : LowA lo a M1 M2) : LowA lo a M M2 := ⟨Nat.le_trans h.1 k.1, fun i hi ha => (k.2 i hi ha).trans (h.2 i hi ha)⟩
theorem Low.a {lo a : Nat} {M M' : Mem} (h : Low lo M M') : LowA lo a M M' := ⟨h.1, fun i hi _ => h.2 i hi⟩
theorem lowA_set {lo a : Nat} {M : Mem} {o : Ob} : LowA lo a M (M.set a o) := ⟨by simp, fun i hi hn => by rw [List.getElem?_set_ne (Ne.symm hn)]⟩
open Classical in
theorem Grp.step {lo a n : Nat} {M : Mem} {f : D → List D} (h : Grp lo M a f n) {key x : D} (hk : keyOf (.v key) = some key) (hn : n ≤ 90000) (hl : (f key).length ≤ 90000) (hlo : lo ≤ M.length) :
    ∃ j M1 M2, setdF (.v (.ref a)) (.v key) (.o (.lst [])) M = some (.v (.ref j), M1) ∧ isTyB "list" (.v (.ref j)) M1 = true ∧ appF (.v (.ref j)) (.v x) M1 = some (.v .non, M2) ∧ LowA lo a M M2 ∧ Grp lo M2 a (fun k => if k = key then f k ++ [x] else f k) (n + 1) := by
  obtain ⟨kvs, e1, hz, h1, h2, h3⟩ := h
  have hf : fits (kvs.length + 1) := fits_of (by omega)
  have haM : a < M.length := (List.getElem?_eq_some_iff.mp e1).1
  cases hd : dlook kvs key with
  | some v =>
    obtain ⟨j, rfl, hj, hja, e2, hne⟩ := h1 key v hd
    have hjM : j < M.length := (List.getElem?_eq_some_iff.mp e2).1
    have hf2 : fits ((f key).length + 1) := fits_of (by omega)
    refine ⟨j, M, M.set j (.lst (f key ++ [x])), by simp only [setdF, e1, hk, Option.bind_some, if_pos hf, hd], isT_ref e2, by simp only [appF, e2, if_pos hf2, val_v], (low_set hj).a, kvs, ?_, by omega, fun k v hv => ?_, fun k hkn => ?_, h3⟩
    · rw [List.getElem?_set_ne hja]; exact e1
    · obtain ⟨i, rfl, hi, hia, e3, hne'⟩ := h1 k v hv
      refine ⟨i, rfl, hi, hia, ?_, ?_⟩
      · by_cases hkk : k = key
        · subst hkk
          rw [hd] at hv; cases hv
          rw [if_pos rfl, List.getElem?_set_self hjM]
        · rw [if_neg hkk, List.getElem?_set_ne (fun z => hkk (by subst z; exact h3 k key j hv hd))]; exact e3
      · by_cases hkk : k = key
        · rw [if_pos hkk]; simp
        · rw [if_neg hkk]; exact hne'
    · have : k ≠ key := fun z => by subst z; rw [hd] at hkn; cases hkn
      rw [if_neg this]; exact h2 k hkn
  | none =>
    have hfk := h2 key hd
    have hset : ((M ++ [Ob.lst []]).set a (.dcr (dsto kvs key (.ref M.length))))[M.length]? = some (.lst []) := by
      rw [List.getElem?_set_ne (by omega)]; simp
    have hf2 : fits (([] : List D).length + 1) := fits_of (by simp)
    refine ⟨M.length, (M ++ [Ob.lst []]).set a (.dcr (dsto kvs key (.ref M.length))), ((M ++ [Ob.lst []]).set a (.dcr (dsto kvs key (.ref M.length)))).set M.length (.lst ([] ++ [x])), by simp only [setdF, e1, hk, Option.bind_some, if_pos hf, hd, val_o], isT_ref hset,
      by simp only [appF, hset, if_pos hf2, val_v], ((low_app hlo).a.trans lowA_set).trans (low_set hlo).a, dsto kvs key (.ref M.length), ?_, ?_, fun k v hv => ?_, fun k hkn => ?_, fun k1 k2 j hk1 hk2 => ?_⟩
    · rw [List.getElem?_set_ne (by omega), List.getElem?_set_self (by simp; omega)]
    · have := dsto_len kvs key (.ref M.length); omega
    · rw [dlook_sto] at hv
      by_cases hkk : k = key
      · subst hkk
        rw [if_pos rfl] at hv; cases hv
        refine ⟨M.length, rfl, hlo, by omega, ?_, ?_⟩
        · rw [if_pos rfl, hfk, List.getElem?_set_self (by simp)]
        · rw [if_pos rfl]; simp
      · rw [if_neg hkk] at hv
        obtain ⟨i, rfl, hi, hia, e3, hne'⟩ := h1 k v hv
        have hiM : i < M.length := (List.getElem?_eq_some_iff.mp e3).1
        refine ⟨i, rfl, hi, hia, ?_, by rw [if_neg hkk]; exact hne'⟩
        rw [if_neg hkk, List.getElem?_set_ne (by omega), List.getElem?_set_ne (by omega), List.getElem?_append_left hiM]; exact e3
    · rw [dlook_sto] at hkn
      by_cases hkk : k = key
      · rw [if_pos hkk] at hkn; cases hkn
      · rw [if_neg hkk] at hkn ⊢; exact h2 k hkn
    · rw [dlook_sto] at hk1 hk2
      by_cases q1 : k1 = key
      · by_cases q2 : k2 = key
        · rw [q1, q2]
        · rw [if_pos q1] at hk1; rw [if_neg q2] at hk2
          cases hk1
          obtain ⟨i, e, _, _, e3, _⟩ := h1 k2 _ hk2
          cases e
          have := (List.getElem?_eq_some_iff.mp e3).1
          omega
      · by_cases q2 : k2 = key
        · rw [if_neg q1] at hk1; rw [if_pos q2] at hk2
          cases hk2
          obtain ⟨i, e, _, _, e3, _⟩ := h1 k1 _ hk1
          cases e
          have := (List.getElem?_eq_some_iff.mp e3).1
          omega
        · rw [if_neg q1] at hk1; rw [if_neg q2] at hk2; exact h3 k1 k2 j hk1 hk2
/-- it stays, where the dict and its lists stay -/
theorem Grp.keep {lo a n : Nat} {M M' : Mem} {f : D → List D} (h : Grp lo M a f n) (ha : M'[a]? = M[a]?) (hk : ∀ i, lo ≤ i → i < M.length → M'[i]? = M[i]?) : Grp lo M' a f n := by
  obtain ⟨kvs, e1, hz, h1, h2, h3⟩ := h
  refine ⟨kvs, by rw [ha]; exact e1, hz, fun k v hv => ?_, h2, h3⟩
  obtain ⟨j, e, hj, hja, e2, hne⟩ := h1 k v hv
  exact ⟨j, e, hj, hja, by rw [hk j hj (List.getElem?_eq_some_iff.mp e2).1]; exact e2, hne⟩
theorem Grp.new {lo a : Nat} {M : Mem} (h : M[a]? = some (.dcr [])) : Grp lo M a (fun _ => []) 0 :=
  ⟨[], h, by simp, fun k v hv => (by rw [dlook_nil] at hv; cases hv), fun _ _ => rfl, fun k1 k2 j hk => (by rw [dlook_nil] at hk; cases hk)⟩
noncomputable def common_part_T1 (ρ : Env) (m : Mem) : Option (Bool × Mem) := (bOf (eBin neF (eVar 1) (eC (.int 0)))) ρ m
theorem w_common_part_T1 {ρ : Env} {M : Mem} {Q : Bool → Mem → Prop} : WB common_part_T1 ρ M Q ↔ WB (bOf (eBin neF (eVar 1) (eC (.int 0)))) ρ M Q := Iff.rfl
noncomputable def common_part_W1 (ρ : Env) (m : Mem) : Option R := (sPar [0, 1] (aCons (eVar 1) (aCons (eBin modF (eVar 0) (eVar 1)) aNil))) ρ m
theorem w_common_part_W1 {ρ : Env} {M : Mem} {Q : R → Prop} : WS common_part_W1 ρ M Q ↔ WS (sPar [0, 1] (aCons (eVar 1) (aCons (eBin modF (eVar 0) (eVar 1)) aNil))) ρ M Q := Iff.rfl
noncomputable def m_common_part : Fn := fnD 2 2
    (sSeq (sWhile common_part_T1 common_part_W1)
    (sRet (eVar 0)))
noncomputable def steps_from_F1 (ρ : Env) (m : Mem) : Option R := (sIf (bOf (eBin (dinF true) (eVar 5) (eVar 2))) (sSeq (sPut (eBin addF (eBin dixF (eVar 2) (eBin ixF (eVar 3) (eVar 4))) (eC (.int 1))) (gDx (eVar 2) (eVar 5)))
    (sDo (eMt1 "list" appF (eVar 3) (eVar 5)))) sNil) ρ m
theorem w_steps_from_F1 {ρ : Env} {M : Mem} {Q : R → Prop} : WS steps_from_F1 ρ M Q ↔ WS (sIf (bOf (eBin (dinF true) (eVar 5) (eVar 2))) (sSeq (sPut (eBin addF (eBin dixF (eVar 2) (eBin ixF (eVar 3) (eVar 4))) (eC (.int 1))) (gDx (eVar 2) (eVar 5)))
    (sDo (eMt1 "list" appF (eVar 3) (eVar 5)))) sNil) ρ M Q := Iff.rfl
noncomputable def steps_from_T1 (ρ : Env) (m : Mem) : Option (Bool × Mem) := (bOf (eBin ltF (eVar 4) (eUn lenF (eVar 3)))) ρ m
theorem w_steps_from_T1 {ρ : Env} {M : Mem} {Q : Bool → Mem → Prop} : WB steps_from_T1 ρ M Q ↔ WB (bOf (eBin ltF (eVar 4) (eUn lenF (eVar 3)))) ρ M Q := Iff.rfl
noncomputable def steps_from_W1 (ρ : Env) (m : Mem) : Option R := (sSeq (sFor (iE (eBin ixF (eVar 0) (eBin ixF (eVar 3) (eVar 4)))) (gT (.nm 5)) steps_from_F1)
    (sAug 4 augAdd (eC (.int 1)))) ρ m
theorem w_steps_from_W1 {ρ : Env} {M : Mem} {Q : R → Prop} : WS steps_from_W1 ρ M Q ↔ WS (sSeq (sFor (iE (eBin ixF (eVar 0) (eBin ixF (eVar 3) (eVar 4)))) (gT (.nm 5)) steps_from_F1)
    (sAug 4 augAdd (eC (.int 1)))) ρ M Q := Iff.rfl
noncomputable def m_steps_from : Fn := fnD 2 6
    (sSeq (sSet 2 (eBin dispF (eVar 1) (eC (.int 0))))
    (sSeq (sSet 3 (eLst (aCons (eVar 1) aNil)))
    (sSeq (sSet 4 (eC (.int 0)))
    (sSeq (sWhile steps_from_T1 steps_from_W1)
    (sRet (eVar 2))))))
noncomputable def beat_of_E1 (ρ : Env) (m : Mem) : Option (Out × Mem) := (eBin modF (eBin dixF (eVar 2) (eVar 4)) (eVar 3)) ρ m
theorem w_beat_of_E1 {ρ : Env} {M : Mem} {Q : PO2} : WE beat_of_E1 ρ M Q ↔ WE (eBin modF (eBin dixF (eVar 2) (eVar 4)) (eVar 3)) ρ M Q := Iff.rfl
noncomputable def beat_of_F1 (ρ : Env) (m : Mem) : Option R := (sSet 3 (eCall m_common_part (aCons (eVar 3) (aCons (eUn absF (eBin subF (eBin addF (eBin dixF (eVar 2) (eVar 4)) (eC (.int 1))) (eBin dixF (eVar 2) (eVar 5)))) aNil)))) ρ m
theorem w_beat_of_F1 {ρ : Env} {M : Mem} {Q : R → Prop} : WS beat_of_F1 ρ M Q ↔ WS (sSet 3 (eCall m_common_part (aCons (eVar 3) (aCons (eUn absF (eBin subF (eBin addF (eBin dixF (eVar 2) (eVar 4)) (eC (.int 1))) (eBin dixF (eVar 2) (eVar 5)))) aNil)))) ρ M Q := Iff.rfl
noncomputable def beat_of_F2 (ρ : Env) (m : Mem) : Option R := (sFor (iE (eBin ixF (eVar 0) (eVar 4))) (gT (.nm 5)) beat_of_F1) ρ m
theorem w_beat_of_F2 {ρ : Env} {M : Mem} {Q : R → Prop} : WS beat_of_F2 ρ M Q ↔ WS (sFor (iE (eBin ixF (eVar 0) (eVar 4))) (gT (.nm 5)) beat_of_F1) ρ M Q := Iff.rfl
noncomputable def m_beat_of : Fn := fnD 2 6
    (sSeq (sSet 2 (eCall m_steps_from (aCons (eVar 0) (aCons (eBin ixF (eVar 1) (eC (.int 0))) aNil))))
    (sSeq (sSet 3 (eC (.int 0)))
    (sSeq (sFor (iE (eVar 1)) (gT (.nm 4)) beat_of_F2)
    (sRet (eTup (aCons (eVar 1) (aCons (eVar 3) (aCons (eUn tupF (eComp (iE (eVar 1)) [4] (.nm 4) bYes beat_of_E1)) aNil))))))))
noncomputable def beats_E1 (ρ : Env) (m : Mem) : Option (Out × Mem) := (eCall m_beat_of (aCons (eVar 0) (aCons (eVar 1) aNil))) ρ m
theorem w_beats_E1 {ρ : Env} {M : Mem} {Q : PO2} : WE beats_E1 ρ M Q ↔ WE (eCall m_beat_of (aCons (eVar 0) (aCons (eVar 1) aNil))) ρ M Q := Iff.rfl
noncomputable def m_beats : Fn := fnD 1 2
    (sRet (eUn tupF (eComp (iE (eCall m_closed_parts (aCons (eVar 0) aNil))) [1] (.nm 1) bYes beats_E1)))
/-! ### beats -/
theorem gcd_eq (a b : Nat) (hb : b ≤ 100000) (M : Mem) : m_common_part [.int (a : Int), .int (b : Int)] M = some (.v (.int ((Nat.gcd a b : Nat) : Int)), M) := by
  refine wo_eq ?_
  unfold m_common_part
  simp only [wp, wx, wf, Nat.reduceSub]
  refine wfu (fun n ρ M' => M' = M ∧ ∃ x : Nat, ρ = [some (.int (x : Int)), some (.int (n : Int))] ∧ Nat.gcd x n = Nat.gcd a b) (n0 := b) (by omega) ⟨rfl, a, rfl, rfl⟩ (fun n ρ M' j => ?_)
  obtain ⟨rfl, x, rfl, hg⟩ := j
  simp only [wp, wx, w_common_part_T1, ne_int]
  by_cases h : n = 0
  · subst h
    simp only [Int.natCast_zero, decide_true, Bool.not_true, kWh_f, wp, wx]
    rw [kFn_v (by simp)]
    rw [Nat.gcd_zero_right] at hg
    exact ⟨by rw [hg], rfl⟩
  · have h' : ¬ (n : Int) = 0 := by omega
    have hp : (0 : Int) < (n : Int) := by omega
    have e : (x : Int) % (n : Int) = ((x % n : Nat) : Int) := rfl
    simp only [h', decide_false, Bool.not_false, kWh_t, wp, wx, w_common_part_W1, mod_int, hp, if_true, e]
    refine ⟨x % n, Nat.mod_lt _ (by omega), n, rfl, ?_⟩
    rw [← hg, Nat.gcd_comm x n, Nat.gcd_rec n x, Nat.gcd_comm]
/-- how many ways to each room: the search, plain -/
def visN (k : Nat) (st : List (Nat × Nat)) (y : Nat) : List (Nat × Nat) := if y ∈ st.map (·.1) then st else st ++ [(y, k)]
def scanN (row : List Nat) (k : Nat) (st : List (Nat × Nat)) : List (Nat × Nat) := row.foldl (visN k) st
def lkN (st : List (Nat × Nat)) (y : Nat) : Option Nat := (st.find? fun c => decide (c.1 = y)).map (·.2)
def iD (st : List (Nat × Nat)) : List (D × D) := st.map fun c => (.int ((c.1 : Nat) : Int), .int ((c.2 : Nat) : Int))
theorem look_iD (st : List (Nat × Nat)) (y : Nat) : dlook (iD st) (.int (y : Int)) = (lkN st y).map fun (k : Nat) => D.int (k : Int) := by
  induction st with
  | nil => simp [iD, dlook_nil, lkN]
  | cons c st ih =>
    simp only [iD, List.map_cons] at ih ⊢
    rw [dlook_cons]
    by_cases h : c.1 = y
    · rw [if_pos (by rw [h])]; simp [lkN, h]
    · have h' : ¬ (D.int ((c.1 : Nat) : Int) = D.int (y : Int)) := fun z => h (by simp only [D.int.injEq] at z; omega)
      rw [if_neg h', ih]
      simp [lkN, h]
theorem lkN_none {st : List (Nat × Nat)} {y : Nat} : lkN st y = none ↔ y ∉ st.map (·.1) := by
  simp only [lkN, Option.map_eq_none_iff, List.find?_eq_none, List.mem_map, decide_eq_true_eq, not_exists, not_and]
theorem lkN_mem {st : List (Nat × Nat)} (h : (st.map (·.1)).Nodup) {y k : Nat} : lkN st y = some k ↔ (y, k) ∈ st := by
  induction st with
  | nil => simp [lkN]
  | cons c st ih =>
    rw [List.map_cons, List.nodup_cons] at h
    by_cases hc : c.1 = y
    · have e : lkN (c :: st) y = some c.2 := by simp [lkN, hc]
      rw [e]
      constructor
      · intro z; simp only [Option.some.injEq] at z; subst z; subst hc; simp
      · intro z
        rcases List.mem_cons.mp z with z | z
        · rw [← z]
        · exact absurd (List.mem_map.mpr ⟨_, z, rfl⟩) (by rw [← hc]; exact h.1)
    · have e : lkN (c :: st) y = lkN st y := by simp [lkN, hc]
      rw [e, ih h.2]
      constructor
      · intro z; simp [z]
      · intro z
        rcases List.mem_cons.mp z with z | z
        · exact absurd (by rw [← z]) hc
        · exact z
theorem keyi (i : Int) : keyOf (.v (.int i)) = some (.int i) := by simp [keyOf, nk, NestedKey.depth]
theorem din_iD {st : List (Nat × Nat)} {d : Nat} {M : Mem} (hd : M[d]? = some (.dcr (iD st))) (y : Nat) (neg : Bool) : dinF neg (.v (.int (y : Int))) (.v (.ref d)) M = some (.v (.bl (if neg then !(lkN st y).isSome else (lkN st y).isSome)), M) := by
  simp only [dinF, dctOf, hd, Option.bind_some, keyi, look_iD, Option.isSome_map]
theorem dix_iD {st : List (Nat × Nat)} {d : Nat} {M : Mem} (hd : M[d]? = some (.dcr (iD st))) {y k : Nat} (h : lkN st y = some k) : dixF (.v (.ref d)) (.v (.int (y : Int))) M = some (.v (.int (k : Int)), M) := by
  simp only [dixF, dctOf, hd, Option.bind_some, keyi, look_iD, h, Option.map_some]
theorem dsto_iD {st : List (Nat × Nat)} {d : Nat} {M : Mem} (hd : M[d]? = some (.dcr (iD st))) {y k : Nat} (h : y ∉ st.map (·.1)) (hl : st.length ≤ 90000) : dstoF (.v (.ref d)) (.v (.int (y : Int))) (.int (k : Int)) M = some (M.set d (.dcr (iD (st ++ [(y, k)])))) := by
  have hf : fits ((iD st).length + 1) := fits_of (by simp [iD]; omega)
  have e : dsto (iD st) (.int (y : Int)) (.int (k : Int)) = iD (st ++ [(y, k)]) := by
    rw [dsto_new (by rw [look_iD, lkN_none.mpr h]; rfl)]; simp [iD]
  simp only [dstoF, hd, keyi, Option.bind_some, if_pos hf, e]
def srchN (W : List (List Nat)) : Nat → Nat → List (Nat × Nat) → List (Nat × Nat)
  | 0, _, st => st
  | f + 1, at_, st => match st[at_]? with
    | none => st
    | some c => srchN W f (at_ + 1) (scanN (W.getD c.1 []) (c.2 + 1) st)
def stepsN (W : List (List Nat)) (x : Nat) : List (Nat × Nat) := srchN W (W.length + 1) 0 [(x, 0)]
section
variable {W : List (List Nat)} {l x : Nat}
theorem visN_pre (k : Nat) (st : List (Nat × Nat)) (y : Nat) : ∃ e, visN k st y = st ++ e := by
  unfold visN
  split
  · exact ⟨[], by simp⟩
  · exact ⟨_, rfl⟩
theorem scanN_pre : ∀ (row : List Nat) (k : Nat) (st : List (Nat × Nat)), ∃ e, scanN row k st = st ++ e
  | [], k, st => ⟨[], by simp [scanN]⟩
  | y :: row, k, st => by
    obtain ⟨e1, h1⟩ := visN_pre k st y
    obtain ⟨e2, h2⟩ := scanN_pre row k (visN k st y)
    exact ⟨e1 ++ e2, by show scanN row k (visN k st y) = _; rw [h2, h1, List.append_assoc]⟩
/-- what the search keeps -/
structure SrI (W : List (List Nat)) (l x : Nat) (st : List (Nat × Nat)) : Prop where
  nd : (st.map (·.1)).Nodup
  lt : ∀ c ∈ st, c.1 < W.length ∧ Rch W l x c.1
  root : st[0]? = some (x, 0)
  up : ∀ c ∈ st, c = (x, 0) ∨ ∃ u ∈ st, (∃ a, a < l ∧ stp W u.1 a = c.1) ∧ c.2 = u.2 + 1
  vl : ∀ j (hj : j < st.length), st[j].2 ≤ j
theorem SrI.vis {st : List (Nat × Nat)} (I : SrI W l x st) {u : Nat × Nat} (hu : u ∈ st) {y : Nat} (hy : y < W.length) (he : ∃ a, a < l ∧ stp W u.1 a = y) : SrI W l x (visN (u.2 + 1) st y) := by
  unfold visN
  split
  · exact I
  · rename_i hn
    refine ⟨?_, fun c hc => ?_, ?_, fun c hc => ?_, fun j hj => ?_⟩
    · rw [List.map_append, List.nodup_append]
      exact ⟨I.nd, by simp, fun a ha b hb => by simp at hb; subst hb; exact fun z => hn (z ▸ ha)⟩
    · rcases List.mem_append.mp hc with hc | hc
      · exact I.lt c hc
      · simp at hc; subst hc
        obtain ⟨a, ha, e⟩ := he
        exact ⟨hy, by rw [← e]; exact (I.lt u hu).2.step ha⟩
    · rw [List.getElem?_append_left (by have := List.getElem?_eq_some_iff.mp I.root; exact this.1)]; exact I.root
    · rcases List.mem_append.mp hc with hc | hc
      · rcases I.up c hc with h | ⟨v, hv, h1, h2⟩
        · exact .inl h
        · exact .inr ⟨v, by simp [hv], h1, h2⟩
      · simp at hc; subst hc
        exact .inr ⟨u, by simp [hu], he, rfl⟩
    · by_cases h : j < st.length
      · rw [List.getElem_append_left h]; exact I.vl j h
      · have hje : j = st.length := by simp at hj; omega
        obtain ⟨i, hi, ei⟩ := List.getElem_of_mem hu
        have := I.vl i hi
        rw [ei] at this
        subst hje
        simp
        omega
theorem SrI.scan {u : Nat × Nat} : ∀ (row : List Nat) (st : List (Nat × Nat)), SrI W l x st → u ∈ st → (∀ y ∈ row, y < W.length ∧ ∃ a, a < l ∧ stp W u.1 a = y) → SrI W l x (scanN row (u.2 + 1) st)
  | [], st, I, _, _ => I
  | y :: row, st, I, hu, hr => by
    obtain ⟨e, he⟩ := visN_pre (u.2 + 1) st y
    exact SrI.scan row _ (I.vis hu (hr y (by simp)).1 (hr y (by simp)).2) (by rw [he]; simp [hu]) fun z hz => hr z (by simp [hz])
theorem scan_has : ∀ (row : List Nat) (k : Nat) (st : List (Nat × Nat)), ∀ y ∈ row, y ∈ (scanN row k st).map (·.1)
  | [], _, _, y, h => by simp at h
  | z :: row, k, st, y, h => by
    show y ∈ (scanN row k (visN k st z)).map (·.1)
    rcases List.mem_cons.mp h with rfl | h
    · obtain ⟨e, he⟩ := scanN_pre row k (visN k st y)
      rw [he, List.map_append, List.mem_append]
      left
      unfold visN
      split
      · assumption
      · simp
    · exact scan_has row k _ y h
theorem row_ways (hW : Mach W l) {u : Nat} (hu : u < W.length) : ∀ y ∈ W.getD u [], y < W.length ∧ ∃ a, a < l ∧ stp W u a = y := fun y hy => by
  rw [show W.getD u [] = W[u] by simp [List.getD, hu]] at hy
  obtain ⟨a, ha, rfl⟩ := List.getElem_of_mem hy
  have ha' : a < l := by rw [← hW.row hu]; exact ha
  exact ⟨hW.lt _ (List.getElem_mem hu) _ (List.getElem_mem ha), a, ha', stp_eq hW hu ha'⟩
theorem srch_all (hW : Mach W l) : ∀ (f at_ : Nat) (st : List (Nat × Nat)), SrI W l x st → at_ ≤ st.length → (∀ j (hj : j < st.length), j < at_ → ∀ a, a < l → stp W st[j].1 a ∈ st.map (·.1)) → W.length < f + at_ → SrI W l x (srchN W f at_ st) ∧ (∀ c ∈ srchN W f at_ st, ∀ a, a < l → stp W c.1 a ∈ (srchN W f at_ st).map (·.1))
  | 0, at_, st, I, hat, hcl, hf => by
    have hl := nd_len I.nd fun y hy => by obtain ⟨c, hc, rfl⟩ := List.mem_map.mp hy; exact (I.lt c hc).1
    rw [List.length_map] at hl
    omega
  | f + 1, at_, st, I, hat, hcl, hf => by
    rw [srchN]
    cases hc : st[at_]? with
    | none =>
      have hge := List.getElem?_eq_none_iff.mp hc
      show SrI W l x st ∧ (∀ c ∈ st, ∀ a, a < l → stp W c.1 a ∈ st.map (·.1))
      refine ⟨I, fun c hcm a ha => ?_⟩
      obtain ⟨j, hj, rfl⟩ := List.getElem_of_mem hcm
      exact hcl j hj (by omega) a ha
    | some c =>
      obtain ⟨hlt, ec⟩ := List.getElem?_eq_some_iff.mp hc
      have hcm : c ∈ st := List.mem_of_getElem? hc
      have hcl1 := (I.lt c hcm).1
      have I2 := SrI.scan (W.getD c.1 []) st I hcm (row_ways hW hcl1)
      obtain ⟨e, he⟩ := scanN_pre (W.getD c.1 []) (c.2 + 1) st
      refine srch_all hW f (at_ + 1) _ I2 (by rw [he]; simp; omega) (fun j hj hja a ha => ?_) (by omega)
      have hj2 : j < st.length := by omega
      have ej : (scanN (W.getD c.1 []) (c.2 + 1) st)[j] = st[j] := by
        have : (scanN (W.getD c.1 []) (c.2 + 1) st)[j]? = st[j]? := by rw [he, List.getElem?_append_left hj2]
        rw [List.getElem?_eq_getElem hj, List.getElem?_eq_getElem hj2] at this
        exact Option.some.inj this
      rw [ej]
      by_cases e1 : j = at_
      · subst e1
        rw [ec]
        refine scan_has _ _ _ _ ?_
        rw [show W.getD c.1 [] = W[c.1] by simp [List.getD, hcl1], stp_eq hW hcl1 ha]
        exact List.getElem_mem _
      · have := hcl j hj2 (by omega) a ha
        rw [he, List.map_append, List.mem_append]
        exact .inl this
theorem stepsN_ok (hW : Mach W l) (hx : x < W.length) : SrI W l x (stepsN W x) ∧ ∀ c ∈ stepsN W x, ∀ a, a < l → stp W c.1 a ∈ (stepsN W x).map (·.1) := by
  unfold stepsN
  refine srch_all hW _ _ _ ⟨by simp, by simp [hx, Rch.refl], rfl, by simp, by simp⟩ (by simp) (by simp) (by omega)
end
theorem steps_w {W : List (List Nat)} {l : Nat} (hW : Mach W l) (hb : W.length ≤ 1000) {x : Nat} (hx : x < W.length) {M : Mem} {K : PO2} (k : K (.o (.dcr (iD (stepsN W x)))) M) : WO (m_steps_from [tM W, .int (x : Int)] M) K := by
  unfold m_steps_from
  have g2 : ∀ u v : Ob, (M ++ [u] ++ [v])[M.length]? = some u := fun u v => get_app (get_end rfl)
  have g3 : ∀ u v : Ob, (M ++ [u] ++ [v])[M.length + 1]? = some v := fun u v => get_end (by simp)
  have s2 : ∀ u v o : Ob, (M ++ [u] ++ [v]).set M.length o = M ++ [o] ++ [v] := fun u v o => by simp
  have s3 : ∀ u v o : Ob, (M ++ [u] ++ [v]).set (M.length + 1) o = M ++ [u] ++ [o] := fun u v o => by simp
  have ed : ∀ M : Mem, dispF (.v (.int (x : Int))) (.v (.int 0)) M = some (.o (.dcr [(.int (x : Int), .int 0)]), M) := fun M => by simp [dispF, keyi]
  have el : ∀ u : Ob, (M ++ [u]).length = M.length + 1 := fun u => by simp
  simp only [wp, wx, wf, Nat.reduceSub, ed, el]
  refine wfu (fun n ρ M' => ∃ (st : List (Nat × Nat)) (at_ : Nat), M' = M ++ [.dcr (iD st)] ++ [.lst (nats (st.map (·.1)))] ∧ SrI W l x st ∧ at_ ≤ st.length ∧ srchN W (W.length + 1 - at_) at_ st = stepsN W x ∧ n = W.length - at_ ∧ ∃ x5, ρ = [some (tM W), some (.int (x : Int)), some (.ref M.length), some (.ref (M.length + 1)), some (.int (at_ : Int)), x5]) (n0 := W.length) (by omega) ⟨[(x, 0)], 0, rfl, ⟨by simp, by simp [hx, Rch.refl], rfl, by simp, by simp⟩, by simp, rfl, rfl, none, rfl⟩ (fun n ρ M' j => ?_)
  obtain ⟨st, at_, rfl, I, hat, hs, rfl, x5, rfl⟩ := j
  have hl := nd_len I.nd fun y hy => by obtain ⟨c, hc, rfl⟩ := List.mem_map.mp hy; exact (I.lt c hc).1
  rw [List.length_map] at hl
  simp only [wp, wx, w_steps_from_T1, len_ref (g3 _ _), ltF, cmp_int, List.length_map]
  by_cases hlt : at_ < st.length
  · have hlt' : (at_ : Int) < (st.length : Int) := by omega
    have hcm := List.getElem_mem hlt
    have hc1 := (I.lt _ hcm).1
    have hm1 : at_ < (st.map (·.1)).length := by simpa using hlt
    have em : (st.map (·.1))[at_] = st[at_].1 := by simp
    have hstep : srchN W (W.length + 1 - (at_ + 1)) (at_ + 1) (scanN (W.getD st[at_].1 []) (st[at_].2 + 1) st) = stepsN W x := by
      rw [← hs, show W.length + 1 - at_ = (W.length + 1 - (at_ + 1)) + 1 by omega, srchN, List.getElem?_eq_getElem hlt]
    have hrow : W.getD st[at_].1 [] = W[st[at_].1] := by simp [List.getD, hc1]
    have hlk : lkN st st[at_].1 = some st[at_].2 := (lkN_mem I.nd).mpr hcm
    generalize hcc : st[at_] = c at *
    simp only [hlt', decide_true, kWh_t, wp, wx, w_steps_from_W1, ixn_at (g3 _ _) hm1, em, ix_row hc1, src_tN, nats]
    refine wl_typ (fun (r : Nat) => D.int (r : Int)) W[c.1] (fun i ρ M' => ∃ e : List (Nat × Nat), scanN ((W[c.1]).take i) (c.2 + 1) st = st ++ e ∧ M' = M ++ [.dcr (iD (st ++ e))] ++ [.lst (nats ((st ++ e).map (·.1)))] ∧ SrI W l x (st ++ e) ∧ ∃ x5, ρ = [some (tM W), some (.int (x : Int)), some (.ref M.length), some (.ref (M.length + 1)), some (.int (at_ : Int)), x5]) ⟨[], by simp [scanN], by simp, by simpa using I, _, rfl⟩ (fun i hi ρ M' j => ?_) (fun ρ M' j => ?_)
    · obtain ⟨e, he, rfl, I2, y5, rfl⟩ := j
      have hl2 := nd_len I2.nd fun y hy => by obtain ⟨c, hc, rfl⟩ := List.mem_map.mp hy; exact (I2.lt c hc).1
      rw [List.length_map] at hl2
      have hyr := row_ways hW hc1 W[c.1][i] (by rw [hrow]; exact List.getElem_mem hi)
      have hsc : scanN ((W[c.1]).take (i + 1)) (c.2 + 1) st = visN (c.2 + 1) (st ++ e) W[c.1][i] := by
        rw [List.take_add_one, List.getElem?_eq_getElem hi, Option.toList_some, ← he]
        unfold scanN
        rw [List.foldl_append]
        rfl
      have hm2 : at_ < ((st ++ e).map (·.1)).length := by simp; omega
      have em2 : ((st ++ e).map (·.1))[at_] = c.1 := by
        rw [List.getElem_map, List.getElem_append_left hlt, hcc]
      have hlk2 : lkN (st ++ e) c.1 = some c.2 := (lkN_mem I2.nd).mpr (by simp [hcm])
      have I3 := I2.vis (u := c) (by simp [hcm]) hyr.1 hyr.2
      simp only [wp, wx, w_steps_from_F1, din_iD (g2 _ _), if_true]
      by_cases hin : W[c.1][i] ∈ (st ++ e).map (·.1)
      · have hsome : (lkN (st ++ e) W[c.1][i]).isSome = true := by
          cases hh : lkN (st ++ e) W[c.1][i] with
          | some _ => rfl
          | none => exact absurd hin (lkN_none.mp hh)
        simp only [hsome, Bool.not_true, wp, wx]
        refine ⟨e, ?_, rfl, I2, _, rfl⟩
        rw [hsc]; unfold visN; rw [if_pos hin]
      · have hnone : (lkN (st ++ e) W[c.1][i]).isSome = false := by rw [lkN_none.mpr hin]; rfl
        have e1 : (c.2 : Int) + 1 = ((c.2 + 1 : Nat) : Int) := by omega
        have es := dsto_iD (k := c.2 + 1) (g2 (.dcr (iD (st ++ e))) (.lst (nats ((st ++ e).map (·.1))))) hin (by omega)
        rw [s2] at es
        have hv : visN (c.2 + 1) (st ++ e) W[c.1][i] = st ++ (e ++ [(W[c.1][i], c.2 + 1)]) := by unfold visN; rw [if_neg hin, List.append_assoc]
        simp only [hnone, Bool.not_false, wp, wx, ixn_at (g3 _ _) hm2, em2, dix_iD (g2 _ _) hlk2, add_int, e1, es, isT_ref (g3 _ _), app_ref (g3 _ _) (show (nats ((st ++ e).map (·.1))).length ≤ 90000 by simp only [List.length_map]; omega), s3]
        refine ⟨e ++ [(W[c.1][i], c.2 + 1)], by rw [hsc, hv], ?_, by rw [← hv]; exact I3, _, rfl⟩
        simp [nats, List.append_assoc]
    · obtain ⟨e, he, rfl, I2, y5, rfl⟩ := j
      have e1 : (at_ : Int) + 1 = ((at_ + 1 : Nat) : Int) := by omega
      rw [List.take_length] at he
      simp only [wp, wx, augAdd, e1]
      refine ⟨W.length - (at_ + 1), by omega, st ++ e, at_ + 1, rfl, I2, by simp; omega, ?_, rfl, _, rfl⟩
      rw [← he, ← hrow]; exact hstep
  · have hlt' : ¬ (at_ : Int) < (st.length : Int) := by omega
    have hfin : stepsN W x = st := by
      rw [← hs, show W.length + 1 - at_ = (W.length - at_) + 1 by omega, srchN, List.getElem?_eq_none (by omega)]
    simp only [hlt', decide_false, kWh_f, wp, wx]
    rw [List.append_assoc, kFn_ra (b := .dcr (iD st)) (Nat.le_refl _) (by rw [← List.append_assoc]; exact g2 _ _) (by
      show loK _ _
      have : ∀ gs : List (Nat × Nat), loK M.length (iD gs) := fun gs => by
        induction gs with
        | nil => simp [iD, loK]
        | cons c gs ih =>
          simp only [iD, List.map_cons] at ih ⊢
          rw [loK]
          exact ⟨by simp, by simp, ih⟩
      exact this st), ← hfin]
    exact k
def sN (st : List (Nat × Nat)) (y : Nat) : Nat := (lkN st y).getD 0
def difN (s : Nat → Nat) (u g : Nat) : Nat := ((s u : Int) + 1 - (s g : Int)).natAbs
def rowG (s : Nat → Nat) (u : Nat) (row : List Nat) (b : Nat) : Nat := row.foldl (fun b g => Nat.gcd b (difN s u g)) b
def btN (W : List (List Nat)) (s : Nat → Nat) (part : List Nat) : Nat := part.foldl (fun b u => rowG s u (W.getD u []) b) 0
theorem beat_of_w {W : List (List Nat)} {l : Nat} (hW : Mach W l) (hb : W.length ≤ 1000) {p0 : Nat} {pt : List Nat} (hp : ∀ u ∈ p0 :: pt, u < W.length ∧ u ∈ (stepsN W p0).map (·.1)) (hs : ∀ c ∈ stepsN W p0, c.2 ≤ 10000) (hc : ∀ c ∈ stepsN W p0, ∀ a, a < l → stp W c.1 a ∈ (stepsN W p0).map (·.1))
    (hB : 0 < btN W (sN (stepsN W p0)) (p0 :: pt)) {M : Mem} {K : PO2} (k : K (.v (.tup [tN (p0 :: pt), .int ((btN W (sN (stepsN W p0)) (p0 :: pt) : Nat) : Int), tN ((p0 :: pt).map fun y => sN (stepsN W p0) y % btN W (sN (stepsN W p0)) (p0 :: pt))])) M) : WO (m_beat_of [tM W, tN (p0 :: pt)] M) K := by
  unfold m_beat_of
  have hx : p0 < W.length := (hp p0 (by simp)).1
  obtain ⟨I, _⟩ := stepsN_ok hW hx
  have e0 : ∀ M : Mem, ixF (.v (tN (p0 :: pt))) (.v (.int 0)) M = some (.v (.int (p0 : Int)), M) := fun M => ix_nat (w := p0 :: pt) (r := 0) (by simp) M
  simp only [wp, wx, wf, Nat.reduceSub, e0]
  refine steps_w hW hb hx ?_
  have hg : (M ++ [Ob.dcr (iD (stepsN W p0))])[M.length]? = some (.dcr (iD (stepsN W p0))) := get_end rfl
  have hlk : ∀ y, y ∈ (stepsN W p0).map (·.1) → lkN (stepsN W p0) y = some (sN (stepsN W p0) y) := fun y hy => by
    unfold sN
    cases hh : lkN (stepsN W p0) y with
    | some k => rfl
    | none => exact absurd hy (lkN_none.mp hh)
  have hsm : ∀ y, y ∈ (stepsN W p0).map (·.1) → sN (stepsN W p0) y ≤ 10000 := fun y hy => hs _ ((lkN_mem I.nd).mp (hlk y hy))
  have hcl : ∀ y, y ∈ (stepsN W p0).map (·.1) → ∀ a, a < l → stp W y a ∈ (stepsN W p0).map (·.1) := fun y hy a ha => by
    obtain ⟨c, hcm, rfl⟩ := List.mem_map.mp hy
    exact hc c hcm a ha
  generalize stepsN W p0 = st at *
  generalize hsd : sN st = s at *
  simp only [wp, wx, src_tN, nats]
  refine wl_typ (fun (r : Nat) => D.int (r : Int)) (p0 :: pt) (fun i ρ M' => M' = M ++ [.dcr (iD st)] ∧ ∃ x4 x5, ρ = [some (tM W), some (tN (p0 :: pt)), some (.ref M.length), some (.int ((((p0 :: pt).take i).foldl (fun b u => rowG s u (W.getD u []) b) 0 : Nat) : Int)), x4, x5]) ⟨rfl, _, _, rfl⟩ (fun i hi ρ M' j => ?_) (fun ρ M' j => ?_)
  · obtain ⟨rfl, x4, x5, rfl⟩ := j
    obtain ⟨hu1, hu2⟩ := hp _ (List.getElem_mem hi)
    have ht : (p0 :: pt).take (i + 1) = (p0 :: pt).take i ++ [(p0 :: pt)[i]] := by rw [List.take_add_one, List.getElem?_eq_getElem hi]; rfl
    generalize (p0 :: pt)[i] = u at *
    have hrow : W.getD u [] = W[u] := by simp [List.getD, hu1]
    have hrl := hW.row hu1
    generalize hb0 : ((p0 :: pt).take i).foldl (fun b u => rowG s u (W.getD u []) b) 0 = b0 at *
    have hnx : ((p0 :: pt).take (i + 1)).foldl (fun b u => rowG s u (W.getD u []) b) 0 = rowG s u W[u] b0 := by
      rw [ht, List.foldl_append, hb0]
      show rowG s u (W.getD u []) b0 = _
      rw [hrow]
    simp only [wp, wx, w_beat_of_F2, ix_row hu1, src_tN, nats]
    refine wl_typ (fun (r : Nat) => D.int (r : Int)) W[u] (fun j ρ M' => M' = M ++ [.dcr (iD st)] ∧ ∃ x5, ρ = [some (tM W), some (tN (p0 :: pt)), some (.ref M.length), some (.int ((rowG s u ((W[u]).take j) b0 : Nat) : Int)), some (.int (u : Int)), x5]) ⟨rfl, _, rfl⟩ (fun j hj ρ M' jj => ?_) (fun ρ M' jj => ?_)
    · obtain ⟨rfl, y5, rfl⟩ := jj
      have hjl : j < l := by omega
      have hgm : W[u][j] ∈ st.map (·.1) := by
        have := hcl u hu2 j hjl
        rw [stp_eq hW hu1 hjl] at this
        exact this
      have ht2 : (W[u]).take (j + 1) = (W[u]).take j ++ [W[u][j]] := by rw [List.take_add_one, List.getElem?_eq_getElem hj]; rfl
      have h1 := hsm u hu2
      have h2 := hsm _ hgm
      generalize W[u][j] = gg at *
      have ea : (if ((s u : Int) + 1 - (s gg : Int)) < 0 then -((s u : Int) + 1 - (s gg : Int)) else (s u : Int) + 1 - (s gg : Int)) = ((difN s u gg : Nat) : Int) := by
        unfold difN; split <;> omega
      have hd : difN s u gg ≤ 100000 := by unfold difN; omega
      simp only [wp, wx, w_beat_of_F1, dix_iD hg (hlk u hu2), dix_iD hg (hlk gg hgm), add_int, sub_int, abs_int, ea, gcd_eq _ _ hd]
      have hrg : rowG s u ((W[u]).take (j + 1)) b0 = Nat.gcd (rowG s u ((W[u]).take j) b0) (difN s u gg) := by
        rw [ht2]
        unfold rowG
        rw [List.foldl_append]
        rfl
      exact ⟨_, by rw [hrg]⟩
    · obtain ⟨rfl, y5, rfl⟩ := jj
      rw [List.take_length]
      simp only [wp, wx]
      exact ⟨_, _, by rw [hnx]⟩
  · obtain ⟨rfl, x4, x5, rfl⟩ := j
    rw [List.take_length]
    have hBe : (p0 :: pt).foldl (fun b u => rowG s u (W.getD u []) b) 0 = btN W s (p0 :: pt) := rfl
    rw [hBe]
    generalize btN W s (p0 :: pt) = B at *
    have hBp : (0 : Int) < (B : Int) := by omega
    simp only [wp, wx, src_tN, nats]
    refine wc_map (fun (r : Nat) => D.int (r : Int)) (fun (y : Nat) => D.int ((s y % B : Nat) : Int)) (p0 :: pt) (fun y hy => ?_) ?_
    · have em : ∀ M : Mem, modF (.v (.int ((s y : Nat) : Int))) (.v (.int (B : Int))) M = some (.v (.int ((s y % B : Nat) : Int)), M) := fun M => by
        rw [mod_int, if_pos hBp]; rfl
      simp only [wp, wx, w_beat_of_E1, dix_iD hg (hlk y (hp y hy).2), em]
      exact ⟨rfl, rfl⟩
    · have et : (D.tup ((p0 :: pt).map fun (y : Nat) => D.int ((s y % B : Nat) : Int))) = tN ((p0 :: pt).map fun y => s y % B) := by simp [tN, nats]
      simp only [wp, wx, tup_ol, et]
      rw [kFn_va (by simp)]
      exact k
theorem rowG_dvd (s : Nat → Nat) (u : Nat) : ∀ (row : List Nat) (b d : Nat), d ∣ rowG s u row b ↔ d ∣ b ∧ ∀ g ∈ row, d ∣ difN s u g
  | [], b, d => by simp [rowG]
  | g :: row, b, d => by
    have ih := rowG_dvd s u row (Nat.gcd b (difN s u g)) d
    have e : rowG s u (g :: row) b = rowG s u row (Nat.gcd b (difN s u g)) := rfl
    rw [e, ih, Nat.dvd_gcd_iff]
    simp only [List.mem_cons, forall_eq_or_imp]
    exact and_assoc
theorem btN_dvd {W : List (List Nat)} (s : Nat → Nat) (d : Nat) (part : List Nat) : d ∣ btN W s part ↔ ∀ u ∈ part, ∀ g ∈ W.getD u [], d ∣ difN s u g := by
  have h : ∀ (part : List Nat) (b : Nat), d ∣ part.foldl (fun b u => rowG s u (W.getD u []) b) b ↔ d ∣ b ∧ ∀ u ∈ part, ∀ g ∈ W.getD u [], d ∣ difN s u g := by
    intro part
    induction part with
    | nil => intro b; simp
    | cons u part ih =>
      intro b
      rw [List.foldl_cons, ih, rowG_dvd]
      simp only [List.mem_cons, forall_eq_or_imp]
      exact and_assoc
  unfold btN
  rw [h]
  simp
theorem dif_mod {s : Nat → Nat} {u g d : Nat} (hd : 0 < d) : d ∣ difN s u g ↔ (s u + 1) % d = s g % d := by
  unfold difN
  rw [← Int.natCast_dvd_natCast, Int.dvd_natAbs]
  constructor
  · rintro ⟨k, hk⟩
    have h1 : ((s u + 1 : Nat) : Int) = (s g : Int) + (d : Int) * k := by omega
    have h2 : ((s u + 1 : Nat) : Int) % (d : Int) = (s g : Int) % (d : Int) := by rw [h1, Int.add_mul_emod_self_left]
    have h3 : (((s u + 1) % d : Nat) : Int) = ((s g % d : Nat) : Int) := h2
    omega
  · intro h
    have h2 : ((s u + 1 : Nat) : Int) % (d : Int) = (s g : Int) % (d : Int) := by
      show (((s u + 1) % d : Nat) : Int) = ((s g % d : Nat) : Int)
      rw [h]
    have := Int.emod_emod_of_dvd
    have h3 := Int.emod_eq_emod_iff_emod_sub_eq_zero.mp h2
    have h4 := Int.dvd_of_emod_eq_zero h3
    have e : ((s u + 1 : Nat) : Int) - (s g : Int) = (s u : Int) + 1 - (s g : Int) := by omega
    rw [e] at h4
    exact h4
section
variable {W : List (List Nat)} {l p0 : Nat}
/-- a walk by the first way -/
def rW (W : List (List Nat)) (p : Nat) : Nat → Nat
  | 0 => p
  | k + 1 => stp W (rW W p k) 0
theorem rW_rch (hl : 0 < l) (p : Nat) : ∀ k, Rch W l p (rW W p k)
  | 0 => Rch.refl p
  | k + 1 => (rW_rch hl p k).step hl
theorem rW_lt (hW : Mach W l) (hl : 0 < l) {p : Nat} (hp : p < W.length) : ∀ k, rW W p k < W.length
  | 0 => hp
  | k + 1 => stp_lt hW (rW_lt hW hl hp k) hl
theorem steps_root (hW : Mach W l) (hx : p0 < W.length) : sN (stepsN W p0) p0 = 0 := by
  obtain ⟨I, _⟩ := stepsN_ok hW hx
  have : (p0, 0) ∈ stepsN W p0 := List.mem_of_getElem? I.root
  unfold sN
  rw [(lkN_mem I.nd).mpr this]
  rfl
theorem steps_le (hW : Mach W l) (hx : p0 < W.length) : ∀ c ∈ stepsN W p0, c.2 ≤ W.length := fun c hc => by
  obtain ⟨I, _⟩ := stepsN_ok hW hx
  have hl := nd_len I.nd fun y hy => by obtain ⟨c, hc, rfl⟩ := List.mem_map.mp hy; exact (I.lt c hc).1
  rw [List.length_map] at hl
  obtain ⟨j, hj, rfl⟩ := List.getElem_of_mem hc
  have := I.vl j hj
  omega
theorem sN_le (hW : Mach W l) (hx : p0 < W.length) (y : Nat) : sN (stepsN W p0) y ≤ W.length := by
  obtain ⟨I, _⟩ := stepsN_ok hW hx
  unfold sN
  cases h : lkN (stepsN W p0) y with
  | none => simp
  | some k => exact steps_le hW hx _ ((lkN_mem I.nd).mp h)
theorem steps_keys (hW : Mach W l) (hx : p0 < W.length) (y : Nat) : y ∈ (stepsN W p0).map (·.1) ↔ y ∈ rchS W l p0 := by
  obtain ⟨I, hc⟩ := stepsN_ok hW hx
  rw [rchS_mem]
  constructor
  · intro hy
    obtain ⟨c, hcm, rfl⟩ := List.mem_map.mp hy
    exact I.lt c hcm
  · rintro ⟨_, hr⟩
    refine closed_all (F := (stepsN W p0).map (·.1)) (List.mem_map.mpr ⟨_, List.mem_of_getElem? I.root, rfl⟩) (fun z hz a ha => ?_) hr
    obtain ⟨c, hcm, rfl⟩ := List.mem_map.mp hz
    exact hc c hcm a ha
theorem walk_mod (hW : Mach W l) (hl : 0 < l) (hx : p0 < W.length) {d : Nat} (hd : 0 < d) (hB : d ∣ btN W (sN (stepsN W p0)) (rchS W l p0)) : ∀ k, sN (stepsN W p0) (rW W p0 k) % d = k % d
  | 0 => by show sN (stepsN W p0) p0 % d = _; rw [steps_root hW hx]
  | k + 1 => by
    have ih := walk_mod hW hl hx hd hB k
    have hr := rW_lt hW hl hx k
    have h1 := (btN_dvd _ _ _).mp hB (rW W p0 k) (rchS_mem.mpr ⟨hr, rW_rch hl p0 k⟩) (stp W (rW W p0 k) 0) (by
      rw [show W.getD (rW W p0 k) [] = W[rW W p0 k] by simp [List.getD, hr], stp_eq hW hr hl]
      exact List.getElem_mem _)
    rw [dif_mod hd] at h1
    show sN (stepsN W p0) (stp W (rW W p0 k) 0) % d = _
    rw [← h1, Nat.add_mod, ih, ← Nat.add_mod]
theorem beat_pos (hW : Mach W l) (hl : 0 < l) (hx : p0 < W.length) : 0 < btN W (sN (stepsN W p0)) (rchS W l p0) := by
  rcases Nat.eq_zero_or_pos (btN W (sN (stepsN W p0)) (rchS W l p0)) with h | h
  · exfalso
    have := walk_mod hW hl hx (d := W.length + 2) (by omega) (by rw [h]; exact Nat.dvd_zero _) (W.length + 1)
    rw [Nat.mod_eq_of_lt (by omega : W.length + 1 < W.length + 2)] at this
    have h2 := sN_le hW hx (rW W p0 (W.length + 1))
    rw [Nat.mod_eq_of_lt (by omega)] at this
    omega
  · exact h
theorem beat_le (hW : Mach W l) (hl : 0 < l) (hx : p0 < W.length) : btN W (sN (stepsN W p0)) (rchS W l p0) ≤ (rchS W l p0).length := by
  have hp := beat_pos hW hl hx
  have hm := walk_mod hW hl hx hp (Nat.dvd_refl _)
  generalize btN W (sN (stepsN W p0)) (rchS W l p0) = B at *
  have hnd : ((List.range B).map (rW W p0)).Nodup := by
    rw [List.Nodup, List.pairwise_map]
    refine List.Pairwise.imp_of_mem (fun {i j} hi hj hij e => ?_) List.pairwise_lt_range
    have h1 := hm i
    have h2 := hm j
    rw [e] at h1
    rw [h1] at h2
    have hi' := List.mem_range.mp hi
    have hj' := List.mem_range.mp hj
    rw [Nat.mod_eq_of_lt hi', Nat.mod_eq_of_lt hj'] at h2
    omega
  have := nodup_lenN (U := rchS W l p0) hnd fun y hy => by
    obtain ⟨k, _, rfl⟩ := List.mem_map.mp hy
    exact rchS_mem.mpr ⟨rW_lt hW hl hx k, rW_rch hl p0 k⟩
  simpa using this
end
section
variable {W : List (List Nat)} {l : Nat}
theorem cp_closed : ∀ i, ∀ s ∈ cpN W l i, ∃ x, x < i ∧ s = rchS W l x ∧ ∀ y ∈ s, x ∈ rchS W l y
  | 0 => by simp [cpN]
  | i + 1 => fun s hs => by
    unfold cpN at hs
    split at hs
    · rename_i h
      rcases List.mem_append.mp hs with hs | hs
      · obtain ⟨x, hx, e, hc⟩ := cp_closed i s hs; exact ⟨x, by omega, e, hc⟩
      · simp at hs; subst hs; exact ⟨i, by omega, rfl, h.2⟩
    · obtain ⟨x, hx, e, hc⟩ := cp_closed i s hs; exact ⟨x, by omega, e, hc⟩
theorem cp_head {s : List Nat} (h : s ∈ cpN W l W.length) : ∃ p0 pt, s = p0 :: pt ∧ p0 < W.length ∧ s = rchS W l p0 := by
  obtain ⟨x, hx, e, hc⟩ := cp_closed _ s h
  have hxm : x ∈ s := by rw [e]; exact rchS_mem.mpr ⟨hx, Rch.refl x⟩
  cases s with
  | nil => simp at hxm
  | cons p0 pt =>
    have hp : p0 ∈ rchS W l x := by rw [← e]; simp
    have hp' := rchS_mem.mp hp
    have hx' := (rchS_mem.mp (hc p0 (by simp))).2
    refine ⟨p0, pt, rfl, hp'.1, ?_⟩
    rw [e]
    unfold rchS
    refine List.filter_congr fun y _ => ?_
    rw [Bool.eq_iff_iff]
    simp only [decide_eq_true_eq]
    exact ⟨fun h => hx'.trans h, fun h => hp'.2.trans h⟩
end
noncomputable def bD (W : List (List Nat)) (p : List Nat) : D := .tup [tN p, .int ((btN W (sN (stepsN W (p.headD 0))) p : Nat) : Int), tN (p.map fun y => sN (stepsN W (p.headD 0)) y % btN W (sN (stepsN W (p.headD 0))) p)]
theorem tNs_of {ds : List D} {P : List (List Nat)} (h : ∀ d ∈ ds, d ∈ P.map tN) : ∃ Ps : List (List Nat), ds = Ps.map tN ∧ ∀ p ∈ Ps, p ∈ P := by
  induction ds with
  | nil => exact ⟨[], rfl, by simp⟩
  | cons d ds ih =>
    obtain ⟨Ps, e, hP⟩ := ih fun x hx => h x (by simp [hx])
    obtain ⟨p, hp, rfl⟩ := List.mem_map.mp (h d (by simp))
    exact ⟨p :: Ps, by rw [e]; rfl, fun q hq => by rcases List.mem_cons.mp hq with rfl | hq; exact hp; exact hP q hq⟩
theorem beats_w {W : List (List Nat)} {l : Nat} (hW : Mach W l) (hl : 0 < l) (hb : W.length ≤ 1000) {Ps : List (List Nat)} (hPs : ((cpN W l W.length).map tN).mergeSort leD = Ps.map tN) (hP : ∀ p ∈ Ps, p ∈ cpN W l W.length) {M : Mem} {K : PO2} (k : K (.v (.tup (Ps.map (bD W)))) M) : WO (m_beats [tM W] M) K := by
  unfold m_beats
  simp only [wp, wx, wf, Nat.reduceSub]
  refine closed_parts_w hW hb ?_
  rw [hPs]
  simp only [wp, wx, src_tup]
  refine wc_map tN (bD W) Ps (fun p hp => ?_) ?_
  · obtain ⟨p0, pt, rfl, hx, e⟩ := cp_head (hP p hp)
    simp only [wp, wx, w_beats_E1]
    obtain ⟨I, hc⟩ := stepsN_ok hW hx
    have hpos := beat_pos hW hl hx
    rw [← e] at hpos
    refine beat_of_w hW hb (fun u hu => ?_) (fun c hc => Nat.le_trans (steps_le hW hx c hc) (by omega)) hc hpos ?_
    · rw [steps_keys hW hx]
      rw [e] at hu
      exact ⟨(rchS_mem.mp hu).1, hu⟩
    · exact ⟨rfl, rfl⟩
  · simp only [wp, wx, tup_ol]
    rw [kFn_v (by
      simp only [lo_tup, loL_iff]
      intro d hd
      obtain ⟨p, _, rfl⟩ := List.mem_map.mp hd
      simp [bD])]
    exact k
noncomputable def stepped_E1 (ρ : Env) (m : Mem) : Option (Out × Mem) := (eBin ixF (eBin ixF (eVar 0) (eVar 3)) (eVar 2)) ρ m
theorem w_stepped_E1 {ρ : Env} {M : Mem} {Q : PO2} : WE stepped_E1 ρ M Q ↔ WE (eBin ixF (eBin ixF (eVar 0) (eVar 3)) (eVar 2)) ρ M Q := Iff.rfl
noncomputable def m_stepped : Fn := fnD 3 4
    (sRet (eUn tupF (eUn sosF (eComp (iE (eVar 1)) [3] (.nm 3) bYes stepped_E1))))
/-! sets of rooms: rising lists -/
def insN (x : Nat) : List Nat → List Nat
  | [] => [x]
  | y :: l => if x < y then x :: y :: l else if x = y then y :: l else y :: insN x l
def sortN (ns : List Nat) : List Nat := ns.foldr insN []
theorem insN_mem (x k : Nat) : ∀ l : List Nat, k ∈ insN x l ↔ k = x ∨ k ∈ l
  | [] => by simp [insN]
  | y :: l => by
    unfold insN
    split
    · simp
    · split
      · rename_i h; subst h; simp
      · simp [insN_mem x k l]; constructor <;> (intro h; rcases h with h | h | h <;> simp [h])
theorem insN_rise (x : Nat) : ∀ l : List Nat, l.Pairwise (· < ·) → (insN x l).Pairwise (· < ·)
  | [], _ => by simp [insN]
  | y :: l, h => by
    obtain ⟨h1, h2⟩ := List.pairwise_cons.mp h
    unfold insN
    split
    · rename_i hxy
      refine List.pairwise_cons.mpr ⟨fun z hz => ?_, h⟩
      rcases List.mem_cons.mp hz with rfl | hz
      · exact hxy
      · have := h1 z hz; omega
    · split
      · exact h
      · rename_i n1 n2
        refine List.pairwise_cons.mpr ⟨fun z hz => ?_, insN_rise x l h2⟩
        rcases (insN_mem x z l).mp hz with rfl | hz
        · omega
        · exact h1 z hz
theorem sortN_mem (k : Nat) : ∀ ns : List Nat, k ∈ sortN ns ↔ k ∈ ns
  | [] => by simp [sortN]
  | n :: ns => by
    have := sortN_mem k ns
    unfold sortN at this ⊢
    rw [List.foldr_cons, insN_mem, this, List.mem_cons]
theorem sortN_rise : ∀ ns : List Nat, (sortN ns).Pairwise (· < ·)
  | [] => by simp [sortN]
  | n :: ns => by
    have := sortN_rise ns
    unfold sortN at this ⊢
    exact insN_rise n _ this
theorem riseN_unique : ∀ {a b : List Nat}, a.Pairwise (· < ·) → b.Pairwise (· < ·) → (∀ k, k ∈ a ↔ k ∈ b) → a = b
  | [], [], _, _, _ => rfl
  | [], y :: b, _, _, h => by have := (h y).mpr (by simp); simp at this
  | x :: a, [], _, _, h => by have := (h x).mp (by simp); simp at this
  | x :: a, y :: b, ha, hb, h => by
    obtain ⟨a1, a2⟩ := List.pairwise_cons.mp ha
    obtain ⟨b1, b2⟩ := List.pairwise_cons.mp hb
    have e : x = y := by
      have h1 := (h x).mp (by simp)
      have h2 := (h y).mpr (by simp)
      rcases List.mem_cons.mp h1 with e | e
      · exact e
      · rcases List.mem_cons.mp h2 with e' | e'
        · exact e'.symm
        · have := b1 x e; have := a1 y e'; omega
    subst e
    rw [riseN_unique a2 b2 fun k => ?_]
    have hk := h k
    simp only [List.mem_cons] at hk
    constructor
    · intro hm
      rcases hk.mp (.inr hm) with e | e
      · subst e; have := a1 k hm; omega
      · exact e
    · intro hm
      rcases hk.mpr (.inr hm) with e | e
      · subst e; have := b1 k hm; omega
      · exact e
theorem sortN_self {a : List Nat} (h : a.Pairwise (· < ·)) : sortN a = a := riseN_unique (sortN_rise a) h fun k => sortN_mem k a
theorem sortN_eq {a b : List Nat} (h : ∀ k, k ∈ a ↔ k ∈ b) : sortN a = sortN b := riseN_unique (sortN_rise a) (sortN_rise b) fun k => by rw [sortN_mem, sortN_mem, h k]
theorem insU_nat (x : Nat) : ∀ l : List Nat, insU (x : Int) (l.map fun (n : Nat) => (n : Int)) = (insN x l).map fun (n : Nat) => (n : Int)
  | [] => by simp [insU, insN]
  | y :: l => by
    simp only [List.map_cons, insU, insN]
    by_cases h1 : x < y
    · rw [if_pos (by omega), if_pos h1]; rfl
    · rw [if_neg (by omega), if_neg h1]
      by_cases h2 : x = y
      · rw [if_pos (by omega), if_pos h2]; rfl
      · rw [if_neg (by omega), if_neg h2, insU_nat x l]; rfl
theorem sortU_nat : ∀ l : List Nat, sortU (l.map fun (n : Nat) => (n : Int)) = (sortN l).map fun (n : Nat) => (n : Int)
  | [] => rfl
  | x :: l => by
    have ih := sortU_nat l
    unfold sortU sortN at ih ⊢
    rw [List.map_cons, List.foldr_cons, List.foldr_cons, ih, insU_nat]
theorem sortN_len : ∀ l : List Nat, (sortN l).length ≤ l.length
  | [] => by simp [sortN]
  | x :: l => by
    have ih := sortN_len l
    have h : ∀ l : List Nat, (insN x l).length ≤ l.length + 1 := by
      intro l
      induction l with
      | nil => simp [insN]
      | cons y l ih =>
        unfold insN
        split
        · simp
        · split
          · simp
          · simp only [List.length_cons]; omega
    unfold sortN at ih ⊢
    rw [List.foldr_cons]
    have := h (l.foldr insN [])
    simp; omega
theorem sos_nats {w : List Nat} (h : w.length < 64) (M : Mem) : sosF (.o (.lst (nats w))) M = some (.o (.lst (nats (sortN w))), M) := by
  have e : nats w = (w.map fun (n : Nat) => (n : Int)).map D.int := by simp
  have e2 : nats (sortN w) = ((sortN w).map fun (n : Nat) => (n : Int)).map D.int := by simp
  unfold sosF
  simp only [seqOf, Option.bind_some]
  rw [e, intsOf_map]
  simp only [Option.bind_some, List.length_map, if_pos h]
  rw [sortU_nat, ← e2]
/-! where words lead sets -/
structure RSet (n : Nat) (S : List Nat) : Prop where
  rise : S.Pairwise (· < ·)
  lt : ∀ r ∈ S, r < n
theorem rise_len {n : Nat} : ∀ (S : List Nat) (k : Nat), S.Pairwise (· < ·) → (∀ r ∈ S, k ≤ r ∧ r < n) → S.length ≤ n - k
  | [], k, _, _ => by simp
  | x :: S, k, h, hb => by
    obtain ⟨h1, h2⟩ := List.pairwise_cons.mp h
    have hx := hb x (by simp)
    have := rise_len S (x + 1) h2 fun r hr => ⟨h1 r hr, (hb r (by simp [hr])).2⟩
    simp only [List.length_cons]
    omega
theorem RSet.len {n : Nat} {S : List Nat} (h : RSet n S) : S.length ≤ n := by
  have := rise_len S 0 h.rise fun r hr => ⟨by omega, h.lt r hr⟩
  omega
def stepN (m : List (List Nat)) (S : List Nat) (a : Nat) : List Nat := sortN (S.map fun r => stp m r a)
def broughtN (m : List (List Nat)) (S : List Nat) (w : List Nat) : List Nat := w.foldl (stepN m) S
theorem stepN_set {m : List (List Nat)} {l : Nat} (hm : Mach m l) {S : List Nat} (h : RSet m.length S) {a : Nat} (ha : a < l) : RSet m.length (stepN m S a) := by
  refine ⟨sortN_rise _, fun r hr => ?_⟩
  rw [stepN, sortN_mem] at hr
  obtain ⟨q, hq, rfl⟩ := List.mem_map.mp hr
  exact stp_lt hm (h.lt q hq) ha
theorem broughtN_set {m : List (List Nat)} {l : Nat} (hm : Mach m l) : ∀ {w : List Nat} {S : List Nat}, RSet m.length S → (∀ a ∈ w, a < l) → RSet m.length (broughtN m S w)
  | [], S, h, _ => h
  | a :: w, S, h, hw => broughtN_set hm (w := w) (stepN_set hm h (hw a (by simp))) fun b hb => hw b (by simp [hb])
theorem broughtN_sort {m : List (List Nat)} : ∀ (w T : List Nat), broughtN m (sortN T) w = sortN (T.map fun r => ledN m r w)
  | [], T => by simp [broughtN, ledN]
  | a :: w, T => by
    have e : stepN m (sortN T) a = sortN (T.map fun r => stp m r a) := by
      unfold stepN
      apply sortN_eq
      intro k
      simp only [List.mem_map, sortN_mem]
    show broughtN m (stepN m (sortN T) a) w = _
    rw [e, broughtN_sort w, List.map_map]
    rfl
theorem broughtN_led {m : List (List Nat)} {n : Nat} {S : List Nat} (h : RSet n S) (w : List Nat) : broughtN m S w = sortN (S.map fun r => ledN m r w) := by
  have := broughtN_sort (m := m) w S
  rw [sortN_self h.rise] at this
  exact this
/-! ### things of any kind whose kind is known -/
mutual
def kn (M : Mem) : D → Prop
  | .par _ => False
  | .lam _ _ => False
  | .ref n => (∃ xs, M[n]? = some (.lst xs)) ∨ ∃ xs, M[n]? = some (.dct xs)
  | .tup xs => knL M xs
  | _ => True
def knL (M : Mem) : List D → Prop
  | [] => True
  | d :: ds => kn M d ∧ knL M ds
end
theorem knL_iff (M : Mem) : ∀ ds : List D, knL M ds ↔ ∀ d ∈ ds, kn M d
  | [] => by simp [knL]
  | d :: ds => by simp [knL, knL_iff M ds]
theorem kn_tup {M : Mem} {xs : List D} (h : kn M (.tup xs)) : ∀ d ∈ xs, kn M d := by rw [kn] at h; exact (knL_iff M xs).mp h
theorem tup_kn {M : Mem} {xs : List D} (h : ∀ d ∈ xs, kn M d) : kn M (.tup xs) := by rw [kn]; exact (knL_iff M xs).mpr h
@[simp] theorem kn_int (M : Mem) (i : Int) : kn M (.int i) = True := by rw [kn] <;> simp
@[simp] theorem kn_bl (M : Mem) (i : Bool) : kn M (.bl i) = True := by rw [kn] <;> simp
@[simp] theorem kn_str (M : Mem) (i : Str) : kn M (.str i) = True := by rw [kn] <;> simp
@[simp] theorem kn_non (M : Mem) : kn M .non = True := by rw [kn] <;> simp
@[simp] theorem kn_tupE (M : Mem) (xs : List D) : kn M (.tup xs) = knL M xs := by rw [kn]
@[simp] theorem knL_nil (M : Mem) : knL M [] = True := by rw [knL]
@[simp] theorem knL_cons (M : Mem) (d : D) (ds : List D) : knL M (d :: ds) = (kn M d ∧ knL M ds) := by rw [knL]
theorem kn_lst {M : Mem} {n : Nat} {xs : List D} (h : M[n]? = some (.lst xs)) : kn M (.ref n) := by rw [kn]; exact .inl ⟨xs, h⟩
theorem kn_dct {M : Mem} {n : Nat} {xs : List (D × D)} (h : M[n]? = some (.dct xs)) : kn M (.ref n) := by rw [kn]; exact .inr ⟨xs, h⟩
theorem kn_nats (M : Mem) (w : List Nat) : knL M (nats w) := by rw [knL_iff]; intro d hd; simp at hd; obtain ⟨a, _, rfl⟩ := hd; simp
@[simp] theorem kn_tN (M : Mem) (w : List Nat) : kn M (tN w) = True := by unfold tN; simp [kn_nats]
@[simp] theorem kn_tM (M : Mem) (w : List (List Nat)) : kn M (tM w) = True := by unfold tM; simp [knL_iff]
/-- is it a tuple, a whole number, .. -/
def isTupB : D → Bool
  | .tup _ => true
  | _ => false
def wholeB : D → Bool
  | .int _ => true
  | _ => false
def isStrB : D → Bool
  | .str _ => true
  | _ => false
def isBlB : D → Bool
  | .bl _ => true
  | _ => false
def isIntB : D → Bool
  | .int _ => true
  | .bl _ => true
  | _ => false
theorem isi_any {M : Mem} {d : D} (h : kn M d) (t : Ty) : ∃ s, isiF t (.v d) M = some (.v (.bl (isiB t s)), M) ∧ tyOf (.v d) M = some s := by
  cases d with
  | par xs => simp [kn] at h
  | lam k xs => simp [kn] at h
  | ref n =>
    rw [kn] at h
    rcases h with ⟨xs, e⟩ | ⟨xs, e⟩
    · exact ⟨"list", by simp [isiF, tyOf, e], by simp [tyOf, e]⟩
    · exact ⟨"dict", by simp [isiF, tyOf, e], by simp [tyOf, e]⟩
  | _ => exact ⟨_, rfl, rfl⟩
theorem isi_tup {M : Mem} {d : D} (h : kn M d) : isiF .tuple (.v d) M = some (.v (.bl (isTupB d)), M) := by
  cases d with
  | par xs => simp [kn] at h
  | lam k xs => simp [kn] at h
  | ref n =>
    rw [kn] at h
    rcases h with ⟨xs, e⟩ | ⟨xs, e⟩ <;> simp [isiF, tyOf, e, isiB, isTupB]
  | _ => simp [isiF, tyOf, isiB, isTupB]
theorem isi_intB {M : Mem} {d : D} (h : kn M d) : isiF .int (.v d) M = some (.v (.bl (isIntB d)), M) := by
  cases d with
  | par xs => simp [kn] at h
  | lam k xs => simp [kn] at h
  | ref n =>
    rw [kn] at h
    rcases h with ⟨xs, e⟩ | ⟨xs, e⟩ <;> simp [isiF, tyOf, e, isiB, isIntB]
  | _ => simp [isiF, tyOf, isiB, isIntB]
theorem isi_blB {M : Mem} {d : D} (h : kn M d) : isiF .bool (.v d) M = some (.v (.bl (isBlB d)), M) := by
  cases d with
  | par xs => simp [kn] at h
  | lam k xs => simp [kn] at h
  | ref n =>
    rw [kn] at h
    rcases h with ⟨xs, e⟩ | ⟨xs, e⟩ <;> simp [isiF, tyOf, e, isiB, isBlB]
  | _ => simp [isiF, tyOf, isiB, isBlB]
theorem isi_strB {M : Mem} {d : D} (h : kn M d) : isiF .str (.v d) M = some (.v (.bl (isStrB d)), M) := by
  cases d with
  | par xs => simp [kn] at h
  | lam k xs => simp [kn] at h
  | ref n =>
    rw [kn] at h
    rcases h with ⟨xs, e⟩ | ⟨xs, e⟩ <;> simp [isiF, tyOf, e, isiB, isStrB]
  | _ => simp [isiF, tyOf, isiB, isStrB]
theorem isi_tN (M : Mem) (w : List Nat) : isiF .tuple (.v (tN w)) M = some (.v (.bl true), M) := by simp [isiF, tN, tyOf, isiB]
theorem isi_tM (M : Mem) (w : List (List Nat)) : isiF .tuple (.v (tM w)) M = some (.v (.bl true), M) := by simp [isiF, tM, tyOf, isiB]
theorem all_bls (bs : List Bool) (M : Mem) : allF (.o (.lst (bs.map .bl))) M = some (.v (.bl (bs.all id)), M) := by simp [allF, lstOf, blsOf_map]
theorem any_bls (bs : List Bool) (M : Mem) : anyF (.o (.lst (bs.map .bl))) M = some (.v (.bl (bs.any id)), M) := by simp [anyF, lstOf, blsOf_map]
theorem all_map {α : Type} (p : α → Bool) (xs : List α) (M : Mem) : allF (.o (.lst (xs.map fun x => D.bl (p x)))) M = some (.v (.bl (xs.all p)), M) := by
  have := all_bls (xs.map p) M
  rw [List.map_map, List.all_map] at this
  exact this
theorem any_map {α : Type} (p : α → Bool) (xs : List α) (M : Mem) : anyF (.o (.lst (xs.map fun x => D.bl (p x)))) M = some (.v (.bl (xs.any p)), M) := by
  have := any_bls (xs.map p) M
  rw [List.map_map, List.any_map] at this
  exact this
/-- comprehensions over plain data, elements that change nothing -/
theorem wc_mapD (h : D → D) (ys : List D) {t : Tg} {f : E} {ρ : Env} {M : Mem} {Q : List D → Mem → Prop} (step : ∀ y ∈ ys, WEnv (t.put y ρ) fun ρ' => WE f ρ' M (kIs (h y) M)) (done : Q (ys.map h) M) : WC t bYes f [] ρ ys M Q := by
  have := wc_map (emb := id) (h := h) ys (t := t) (f := f) (ρ := ρ) (M := M) (Q := Q) step done
  rw [List.map_id] at this
  exact this
theorem wc_invL {t : Tg} {f : E} {lv : List (Nat × Ob)} {ρ : Env} {M : Mem} {Q : List D → Mem → Prop} (h : D → D) (ys : List D) (hc : chk lv M) (step : ∀ y ∈ ys, WEnv (t.put y ρ) fun ρ' => WE f ρ' M (kIs (h y) M)) (done : Q (ys.map h) M) : WC t bYes f lv ρ ys M Q := by
  refine wc_inv (fun i acc M' => acc = (ys.map h).take i ∧ M' = M) ⟨by simp, rfl⟩ (fun _ _ _ _ j => by rw [j.2]; exact hc) (fun i x acc M' hx j => ?_) (fun acc M' j => ?_)
  · obtain ⟨rfl, rfl⟩ := j
    obtain ⟨hi, rfl⟩ := List.getElem?_eq_some_iff.mp hx
    obtain ⟨ρ', e2, r, M', e3, rfl, rfl⟩ := step ys[i] (List.getElem_mem hi)
    refine ⟨ρ', e2, true, M', rfl, _, _, e3, ?_, rfl⟩
    rw [List.take_add_one]
    simp [hi]
  · obtain ⟨rfl, rfl⟩ := j
    rw [List.take_of_length_le (by simp)]
    exact done
mutual
theorem kn_take {M : Mem} {n : Nat} : ∀ {d : D}, d.lo n → kn M d → kn (M.take n) d
  | .non, _, _ => by simp
  | .bl _, _, _ => by simp
  | .int _, _, _ => by simp
  | .str _, _, _ => by simp
  | .fl _, _, _ => by rw [kn] <;> simp
  | .par _, _, h => by rw [kn] at h; exact h.elim
  | .lam _ _, _, h => by rw [kn] at h; exact h.elim
  | .tup xs, l, h => by simp at l h ⊢; exact knL_take l h
  | .ref k, l, h => by
    have l' : k < n := by simpa using l
    rw [kn] at h ⊢
    rcases h with ⟨xs, e⟩ | ⟨xs, e⟩
    · exact .inl ⟨xs, by rw [List.getElem?_take_of_lt l']; exact e⟩
    · exact .inr ⟨xs, by rw [List.getElem?_take_of_lt l']; exact e⟩
theorem knL_take {M : Mem} {n : Nat} : ∀ {d : List D}, loL n d → knL M d → knL (M.take n) d
  | [], _, _ => by simp
  | d :: ds, l, h => by simp at l h ⊢; exact ⟨kn_take l.1 h.1, knL_take l.2 h.2⟩
end
theorem kn_app {M e : Mem} {d : D} : kn M d → kn (M ++ e) d := by
  refine D.rec (motive_1 := fun d => kn M d → kn (M ++ e) d) (motive_2 := fun ds => knL M ds → knL (M ++ e) ds) (by simp) (by simp) (by simp) (by simp) (fun xs ih => by simpa using ih) (fun xs ih _ => by rw [kn] <;> simp) (fun xs ih h => by rw [kn] at h; exact h.elim) (fun k h => ?_) (fun k xs ih h => by rw [kn] at h; exact h.elim) (by simp) (fun d ds h1 h2 => by simp; exact fun a b => ⟨h1 a, h2 b⟩) d
  rw [kn] at h ⊢
  rcases h with ⟨xs, e1⟩ | ⟨xs, e1⟩
  · exact .inl ⟨xs, by rw [List.getElem?_append_left (List.getElem?_eq_some_iff.mp e1).1]; exact e1⟩
  · exact .inr ⟨xs, by rw [List.getElem?_append_left (List.getElem?_eq_some_iff.mp e1).1]; exact e1⟩
/-- a def's end that hands a tuple of things back -/
theorem Gen.kFnT {st : D} {ab : List Nat} {S : Mem → Prop} {nx : Fn} (g : Gen st ab S nx) {M M' : Mem} {xs : List D} {K : PO2} (s0 : S M) (s : S M') (hl : M.length ≤ M'.length) (hk : kn M' (.tup xs)) (k : ∀ M'', S M'' → kn M'' (.tup xs) → K (.v (.tup xs)) M'') : Q.kFn M K (.rt (.v (.tup xs)) M') := by
  rw [kFn_rt]
  unfold Q.shut
  split
  · simp only
    split
    · rename_i h
      exact k _ (g.keep M' _ s fun i hi => List.getElem?_take_of_lt (g.ins M s0 i hi)) (kn_take h hk)
    · exact k _ s hk
  · exact k _ s hk
/-- one of several things, by its place -/
theorem pick_o {xs : List D} {i : Nat} {M : Mem} {K : PO2} (hi : i < xs.length) (h : ∀ d ∈ xs, K (.v d) M) : WO (ixF (.o (.lst xs)) (.v (.int (i : Int))) M) K := by
  rw [ix_ol (List.getElem?_eq_getElem hi), wo_some]
  exact h _ (List.getElem_mem hi)
theorem pick_r {n : Nat} {xs : List D} {i : Nat} {M : Mem} {K : PO2} (hn : M[n]? = some (.lst xs)) (hi : i < xs.length) (h : ∀ d ∈ xs, K (.v d) M) : WO (ixF (.v (.ref n)) (.v (.int (i : Int))) M) K := by
  have : ixF (.v (.ref n)) (.v (.int (i : Int))) M = some (.v xs[i], M) := by simp [ixF, seqOf, hn, atI_get xs i hi]
  rw [this, wo_some]
  exact h _ (List.getElem_mem hi)
theorem pick_t {xs : List D} {i : Nat} {M : Mem} {K : PO2} (hi : i < xs.length) (h : ∀ d ∈ xs, K (.v d) M) : WO (ixF (.v (.tup xs)) (.v (.int (i : Int))) M) K := by
  have : ixF (.v (.tup xs)) (.v (.int (i : Int))) M = some (.v xs[i], M) := by simp [ixF, seqOf, atI_get xs i hi]
  rw [this, wo_some]
  exact h _ (List.getElem_mem hi)
theorem add_rl {n : Nat} {xs ys : List D} {M : Mem} (h : M[n]? = some (.lst xs)) (hz : xs.length + ys.length ≤ 100000) : addF (.v (.ref n)) (.o (.lst ys)) M = some (.o (.lst (xs ++ ys)), M) := by
  simp only [addF, lstOf, h, Option.bind_some, if_pos (fits_of hz)]
theorem add_ll {xs ys : List D} {M : Mem} (hz : xs.length + ys.length ≤ 100000) : addF (.o (.lst xs)) (.o (.lst ys)) M = some (.o (.lst (xs ++ ys)), M) := by
  simp only [addF, lstOf, Option.bind_some, if_pos (fits_of hz)]
theorem add_rr {n k : Nat} {xs ys : List D} {M : Mem} (h : M[n]? = some (.lst xs)) (h2 : M[k]? = some (.lst ys)) (hz : xs.length + ys.length ≤ 100000) : addF (.v (.ref n)) (.v (.ref k)) M = some (.o (.lst (xs ++ ys)), M) := by
  simp only [addF, lstOf, h, h2, Option.bind_some, if_pos (fits_of hz)]
theorem add_lr {k : Nat} {xs ys : List D} {M : Mem} (h2 : M[k]? = some (.lst ys)) (hz : xs.length + ys.length ≤ 100000) : addF (.o (.lst xs)) (.v (.ref k)) M = some (.o (.lst (xs ++ ys)), M) := by
  simp only [addF, lstOf, h2, Option.bind_some, if_pos (fits_of hz)]
theorem all_trues {α : Type} (ys : List α) (M : Mem) : allF (.o (.lst (ys.map fun _ => D.bl true))) M = some (.v (.bl true), M) := by
  rw [all_map (fun _ => true)]; simp
noncomputable def _law_leads_C1 (ρ : Env) (m : Mem) : Option (Bool × Mem) := (bOf (eBin (inF true) (eVar 5) (eBin ixF (eVar 1) (eVar 3)))) ρ m
theorem w__law_leads_C1 {ρ : Env} {M : Mem} {Q : Bool → Mem → Prop} : WB _law_leads_C1 ρ M Q ↔ WB (bOf (eBin (inF true) (eVar 5) (eBin ixF (eVar 1) (eVar 3)))) ρ M Q := Iff.rfl
noncomputable def _law_leads_E1 (ρ : Env) (m : Mem) : Option (Out × Mem) := (eVar 5) ρ m
theorem w__law_leads_E1 {ρ : Env} {M : Mem} {Q : PO2} : WE _law_leads_E1 ρ M Q ↔ WE (eVar 5) ρ M Q := Iff.rfl
noncomputable def _law_leads_F1 (ρ : Env) (m : Mem) : Option R := (sIf (bOf (eBin (inF false) (eVar 2) (eBin ixF (eVar 1) (eVar 3)))) (sSeq (sSet 4 (eComp (iE (eBin ixF (eVar 1) (eVar 2))) [5] (.nm 5) _law_leads_C1 _law_leads_E1))
    (sPut (eBin addF (eBin ixF (eVar 1) (eVar 3)) (eVar 4)) (gIx (eVar 1) (eVar 3)))) sNil) ρ m
theorem w__law_leads_F1 {ρ : Env} {M : Mem} {Q : R → Prop} : WS _law_leads_F1 ρ M Q ↔ WS (sIf (bOf (eBin (inF false) (eVar 2) (eBin ixF (eVar 1) (eVar 3)))) (sSeq (sSet 4 (eComp (iE (eBin ixF (eVar 1) (eVar 2))) [5] (.nm 5) _law_leads_C1 _law_leads_E1))
    (sPut (eBin addF (eBin ixF (eVar 1) (eVar 3)) (eVar 4)) (gIx (eVar 1) (eVar 3)))) sNil) ρ M Q := Iff.rfl
noncomputable def _law_leads_F2 (ρ : Env) (m : Mem) : Option R := (sFor (iRg1 (eUn lenF (eVar 0))) (gT (.nm 3)) _law_leads_F1) ρ m
theorem w__law_leads_F2 {ρ : Env} {M : Mem} {Q : R → Prop} : WS _law_leads_F2 ρ M Q ↔ WS (sFor (iRg1 (eUn lenF (eVar 0))) (gT (.nm 3)) _law_leads_F1) ρ M Q := Iff.rfl
noncomputable def _law_leads_C2 (ρ : Env) (m : Mem) : Option (Bool × Mem) := (bOf (eBin neF (eVar 5) (eVar 3))) ρ m
theorem w__law_leads_C2 {ρ : Env} {M : Mem} {Q : Bool → Mem → Prop} : WB _law_leads_C2 ρ M Q ↔ WB (bOf (eBin neF (eVar 5) (eVar 3))) ρ M Q := Iff.rfl
noncomputable def _law_leads_E2 (ρ : Env) (m : Mem) : Option (Out × Mem) := (eVar 5) ρ m
theorem w__law_leads_E2 {ρ : Env} {M : Mem} {Q : PO2} : WE _law_leads_E2 ρ M Q ↔ WE (eVar 5) ρ M Q := Iff.rfl
noncomputable def _law_leads_E3 (ρ : Env) (m : Mem) : Option (Out × Mem) := (eBin addF (eLst (aCons (eVar 3) aNil)) (eComp (iE (eUn sosF (eBin ixF (eVar 0) (eVar 3)))) [5] (.nm 5) _law_leads_C2 _law_leads_E2)) ρ m
theorem w__law_leads_E3 {ρ : Env} {M : Mem} {Q : PO2} : WE _law_leads_E3 ρ M Q ↔ WE (eBin addF (eLst (aCons (eVar 3) aNil)) (eComp (iE (eUn sosF (eBin ixF (eVar 0) (eVar 3)))) [5] (.nm 5) _law_leads_C2 _law_leads_E2)) ρ M Q := Iff.rfl
noncomputable def m__law_leads : Fn := fnD 1 6
    (sSeq (sSet 1 (eComp (iRg1 (eUn lenF (eVar 0))) [3] (.nm 3) bYes _law_leads_E3))
    (sSeq (sFor (iRg1 (eUn lenF (eVar 0))) (gT (.nm 2)) _law_leads_F2)
    (sRet (eVar 1))))
noncomputable def _law_parts_E1 (ρ : Env) (m : Mem) : Option (Out × Mem) := (eBin (inF false) (eVar 3) (eBin ixF (eVar 1) (eVar 5))) ρ m
theorem w__law_parts_E1 {ρ : Env} {M : Mem} {Q : PO2} : WE _law_parts_E1 ρ M Q ↔ WE (eBin (inF false) (eVar 3) (eBin ixF (eVar 1) (eVar 5))) ρ M Q := Iff.rfl
noncomputable def _law_parts_F1 (ρ : Env) (m : Mem) : Option R := (sSeq (sSet 4 (eUn tupF (eUn srtF (eBin ixF (eVar 1) (eVar 3)))))
    (sIf (bAnd (bOf (eBin (inF true) (eVar 4) (eVar 2))) (bOf (eUn allF (eComp (iE (eVar 4)) [5] (.nm 5) bYes _law_parts_E1)))) (sDo (eMt1 "list" appF (eVar 2) (eVar 4))) sNil)) ρ m
theorem w__law_parts_F1 {ρ : Env} {M : Mem} {Q : R → Prop} : WS _law_parts_F1 ρ M Q ↔ WS (sSeq (sSet 4 (eUn tupF (eUn srtF (eBin ixF (eVar 1) (eVar 3)))))
    (sIf (bAnd (bOf (eBin (inF true) (eVar 4) (eVar 2))) (bOf (eUn allF (eComp (iE (eVar 4)) [5] (.nm 5) bYes _law_parts_E1)))) (sDo (eMt1 "list" appF (eVar 2) (eVar 4))) sNil)) ρ M Q := Iff.rfl
noncomputable def m__law_parts : Fn := fnD 1 6
    (sSeq (sSet 1 (eCall m__law_leads (aCons (eVar 0) aNil)))
    (sSeq (sSet 2 (eLst aNil))
    (sSeq (sFor (iRg1 (eUn lenF (eVar 0))) (gT (.nm 3)) _law_parts_F1)
    (sRet (eUn srtF (eVar 2))))))
theorem sos_tN {w : List Nat} (h : w.length < 64) (M : Mem) : sosF (.v (tN w)) M = some (.o (.lst (nats (sortN w))), M) := by
  have := sos_nats (w := w) h M
  unfold sosF at this ⊢
  simp only [seqOf, tN] at this ⊢
  exact this
theorem sto_g {M : Mem} {q : Nat} {xs : List D} {i : Nat} {d : D} (h : M[q]? = some (.lst xs)) (hi : i < xs.length) : stoF (.v (.ref q)) (.v (.int (i : Int))) d M = some (M.set q (.lst (xs.set i d))) := by
  have : ixN xs.length (i : Int) = some i := by unfold ixN; simp; omega
  simp only [stoF, h, this, Option.map_some]
def A0 (W : List (List Nat)) (r : Nat) : List Nat := r :: (sortN (W.getD r [])).filter fun y => decide (y ≠ r)
def updA (A : Nat → List Nat) (k r : Nat) : List Nat := if k ∈ A r then A r ++ (A k).filter (fun y => decide (y ∉ A r)) else A r
def AN (W : List (List Nat)) : Nat → Nat → List Nat
  | 0 => A0 W
  | k + 1 => updA (AN W k) k
section
variable {W : List (List Nat)} {l : Nat}
structure LdA (W : List (List Nat)) (l k : Nat) (A : Nat → List Nat) : Prop where
  nd : ∀ r, r < W.length → (A r).Nodup
  lt : ∀ r, r < W.length → ∀ y ∈ A r, y < W.length ∧ Rch W l r y
  self : ∀ r, r < W.length → r ∈ A r
  one : ∀ r, r < W.length → ∀ a, a < l → stp W r a ∈ A r
  tr : ∀ m, m < k → ∀ r, r < W.length → m ∈ A r → ∀ y ∈ A m, y ∈ A r
theorem A0_ok (hW : Mach W l) : LdA W l 0 (A0 W) where
  nd := fun r hr => by
    unfold A0
    rw [List.nodup_cons]
    refine ⟨by simp, List.Nodup.sublist List.filter_sublist ?_⟩
    exact (sortN_rise _).imp fun h => Nat.ne_of_lt h
  lt := fun r hr y hy => by
    unfold A0 at hy
    rcases List.mem_cons.mp hy with rfl | hy
    · exact ⟨hr, Rch.refl _⟩
    · have hy' := (sortN_mem _ _).mp (List.mem_filter.mp hy).1
      rw [show W.getD r [] = W[r] by simp [List.getD, hr]] at hy'
      obtain ⟨a, ha, rfl⟩ := List.getElem_of_mem hy'
      have ha' : a < l := by rw [← hW.row hr]; exact ha
      refine ⟨hW.lt _ (List.getElem_mem hr) _ (List.getElem_mem ha), ?_⟩
      have := (Rch.refl (W := W) (l := l) r).step ha'
      rw [stp_eq hW hr ha'] at this
      exact this
  self := fun r hr => by simp [A0]
  one := fun r hr a ha => by
    unfold A0
    by_cases e : stp W r a = r
    · rw [e]; simp
    · refine List.mem_cons_of_mem _ (List.mem_filter.mpr ⟨(sortN_mem _ _).mpr ?_, by simpa using e⟩)
      rw [show W.getD r [] = W[r] by simp [List.getD, hr], stp_eq hW hr ha]
      exact List.getElem_mem _
  tr := fun m hm => by omega
theorem updA_mem {A : Nat → List Nat} {k r y : Nat} : y ∈ updA A k r ↔ y ∈ A r ∨ (k ∈ A r ∧ y ∈ A k) := by
  unfold updA
  by_cases h : k ∈ A r
  · rw [if_pos h, List.mem_append, List.mem_filter]
    constructor
    · rintro (h1 | h1)
      · exact .inl h1
      · exact .inr ⟨h, h1.1⟩
    · rintro (h1 | ⟨_, h1⟩)
      · exact .inl h1
      · by_cases hy : y ∈ A r
        · exact .inl hy
        · exact .inr ⟨h1, by simpa using hy⟩
  · rw [if_neg h]
    constructor
    · exact .inl
    · rintro (h1 | ⟨h2, _⟩)
      · exact h1
      · exact absurd h2 h
theorem updA_self {A : Nat → List Nat} {k : Nat} : updA A k k = A k := by
  unfold updA
  have : (A k).filter (fun y => decide (y ∉ A k)) = [] := by
    rw [List.filter_eq_nil_iff]
    intro y hy
    simp [hy]
  split
  · rw [this, List.append_nil]
  · rfl
theorem updA_ok {k : Nat} {A : Nat → List Nat} (h : LdA W l k A) (hk : k < W.length) : LdA W l (k + 1) (updA A k) where
  nd := fun r hr => by
    unfold updA
    split
    · rw [List.nodup_append]
      refine ⟨h.nd r hr, List.Nodup.sublist List.filter_sublist (h.nd k hk), fun a ha b hb e => ?_⟩
      subst e
      have := (List.mem_filter.mp hb).2
      simp [ha] at this
    · exact h.nd r hr
  lt := fun r hr y hy => by
    rcases updA_mem.mp hy with hy | ⟨h1, h2⟩
    · exact h.lt r hr y hy
    · exact ⟨(h.lt k hk y h2).1, (h.lt r hr k h1).2.trans (h.lt k hk y h2).2⟩
  self := fun r hr => updA_mem.mpr (.inl (h.self r hr))
  one := fun r hr a ha => updA_mem.mpr (.inl (h.one r hr a ha))
  tr := fun m hm r hr hmr y hy => by
    by_cases e : m = k
    · subst e
      rw [updA_self] at hy
      have hkr : m ∈ A r := by
        rcases updA_mem.mp hmr with h1 | ⟨h1, _⟩
        · exact h1
        · exact h1
      exact updA_mem.mpr (.inr ⟨hkr, hy⟩)
    · have hm' : m < k := by omega
      rcases updA_mem.mp hmr with h1 | ⟨h1, h2⟩
      · rcases updA_mem.mp hy with hy | ⟨h3, h4⟩
        · exact updA_mem.mpr (.inl (h.tr m hm' r hr h1 y hy))
        · exact updA_mem.mpr (.inr ⟨h.tr m hm' r hr h1 k h3, h4⟩)
      · rcases updA_mem.mp hy with hy | ⟨h3, h4⟩
        · exact updA_mem.mpr (.inr ⟨h1, h.tr m hm' k hk h2 y hy⟩)
        · exact updA_mem.mpr (.inr ⟨h1, h4⟩)
theorem AN_ok (hW : Mach W l) : ∀ k, k ≤ W.length → LdA W l k (AN W k)
  | 0, _ => A0_ok hW
  | k + 1, hk => updA_ok (AN_ok hW k (by omega)) (by omega)
theorem LdA.perm {A : Nat → List Nat} (h : LdA W l W.length A) {r : Nat} (hr : r < W.length) : (rchS W l r).Perm (A r) := by
  refine rchS_perm (h.nd r hr) fun y => ⟨h.lt r hr y, fun hy => ?_⟩
  refine closed_all (h.self r hr) (fun z hz a ha => ?_) hy.2
  have hz' := (h.lt r hr z hz).1
  exact h.tr z hz' r hr hz _ (h.one z hz' a ha)
end
structure LdI (M : Mem) (q : Nat) (n : Nat) (A : Nat → List Nat) (M' : Mem) : Prop where
  ps : ∃ ps : List Nat, M'[q]? = some (.lst (ps.map .ref)) ∧ ps.length = n ∧ ∀ r (h : r < ps.length), M'[ps[r]]? = some (.lst (nats (A r))) ∧ M.length ≤ ps[r]
  ap : ∃ es, M' = M ++ es
  le : M.length ≤ q
  ne : ∀ r, r < n → A r ≠ []
theorem LdI.app {M : Mem} {q n : Nat} {A : Nat → List Nat} {M' : Mem} (h : LdI M q n A M') (e : Mem) : LdI M q n A (M' ++ e) := by
  obtain ⟨⟨ps, h1, h2, h3⟩, ⟨es, he⟩, hle, hne⟩ := h
  exact ⟨⟨ps, get_app h1, h2, fun r hr => ⟨get_app (h3 r hr).1, (h3 r hr).2⟩⟩, ⟨es ++ e, by rw [he, List.append_assoc]⟩, hle, hne⟩
theorem LdI.ix {M : Mem} {q n : Nat} {A : Nat → List Nat} {M' : Mem} (h : LdI M q n A M') {r : Nat} (hr : r < n) : ∃ p, ixF (.v (.ref q)) (.v (.int (r : Int))) M' = some (.v (.ref p), M') ∧ M'[p]? = some (.lst (nats (A r))) := by
  obtain ⟨⟨ps, h1, h2, h3⟩, _, _, _⟩ := h
  have hr' : r < ps.length := by omega
  exact ⟨ps[r], ix_rf h1 (by rw [List.getElem?_map, List.getElem?_eq_getElem hr']; rfl), (h3 r hr').1⟩
theorem set_appx {M es : Mem} {i : Nat} (h : M.length ≤ i) (u : Ob) : ∃ es', (M ++ es).set i u = M ++ es' := ⟨es.set (i - M.length) u, List.set_append_right i u h⟩
theorem leads_w {W : List (List Nat)} {l : Nat} (hW : Mach W l) (h0 : 0 < W.length) (hb : W.length ≤ 1000) (hl : l ≤ 60) {M : Mem} {K : PO2} (k : ∀ q M', LdI M q W.length (AN W W.length) M' → K (.v (.ref q)) M') : WO (m__law_leads [tM W] M) K := by
  unfold m__law_leads
  simp only [wp, wx, wf, Nat.reduceSub, len_tM]
  refine ⟨rg_nat (by omega), ?_⟩
  rw [Int.toNat_natCast, upto_nats]
  refine wc_inv (fun i acc M' => acc = (List.range i).map (fun (r : Nat) => D.ref (M.length + r)) ∧ M' = M ++ (List.range i).map (fun r => Ob.lst (nats (A0 W r)))) ⟨rfl, by simp⟩ (fun _ _ _ _ _ => chk_nil) (fun i x acc M' hx j => ?_) (fun acc M' j => ?_)
  · obtain ⟨rfl, rfl⟩ := j
    rw [List.getElem?_map] at hx
    obtain ⟨r, hr1, rfl⟩ := Option.map_eq_some_iff.mp hx
    obtain ⟨hr2, hr3⟩ := List.getElem?_eq_some_iff.mp hr1
    simp only [List.getElem_range] at hr3
    subst hr3
    have hi : i < W.length := by simpa using hr2
    have hrow := hW.row hi
    simp only [wp, wx, wc, w__law_leads_E3, ix_row hi, sos_tN (show W[i].length < 64 by omega), src_ol, nats]
    refine wc_flt (fun (y : Nat) => D.int (y : Int)) (fun (y : Nat) => D.int (y : Int)) (fun y => decide (y ≠ i)) (sortN W[i]) (fun y _ => ?_) ?_
    · simp only [wp, wx]
      refine ⟨wb_eq ?_, fun _ => ?_⟩
      · simp only [wp, wx, w__law_leads_C2, ne_int]
        rw [Bool.eq_iff_iff]
        simp only [Bool.not_eq_true', decide_eq_false_iff_not, decide_eq_true_eq, ne_eq, true_and, and_true]
        constructor <;> intro h z <;> exact h (by omega)
      · simp only [wp, wx, w__law_leads_E2]
        exact ⟨rfl, rfl⟩
    · have hsl := sortN_len W[i]
      have hfl := List.length_filter_le (fun y => decide (y ≠ i)) (sortN W[i])
      simp only [wp, wx, wc]
      rw [add_ol (by simp; simp at hfl; omega)]
      simp only [wp, wx, wc]
      refine ⟨?_, ?_⟩
      · rw [List.range_succ]; simp
      · rw [List.range_succ, List.map_append, List.append_assoc]
        simp [A0, List.getD, hi, nats]
  · obtain ⟨rfl, rfl⟩ := j
    simp only [List.length_map, List.length_range]
    have I0 : LdI M (M ++ (List.range W.length).map (fun r => Ob.lst (nats (A0 W r)))).length W.length (AN W 0) (M ++ (List.range W.length).map (fun r => Ob.lst (nats (A0 W r))) ++ [.lst ((List.range W.length).map (fun (r : Nat) => D.ref (M.length + r)))]) := by
      refine ⟨⟨(List.range W.length).map fun r => M.length + r, by rw [get_end rfl, List.map_map]; rfl, by simp, fun r hr => ?_⟩, ⟨_, by rw [List.append_assoc]⟩, by simp, fun r _ => by simp [AN, A0]⟩
      simp only [List.length_map, List.length_range] at hr
      simp only [List.getElem_map, List.getElem_range]
      refine ⟨get_app ?_, by omega⟩
      have e : ∀ (a b : Mem) (i : Nat), (a ++ b)[a.length + i]? = b[i]? := fun a b i => by rw [List.getElem?_append_right (by omega)]; congr 1; omega
      rw [e, List.getElem?_map, List.getElem?_range hr]; rfl
    simp only [wp, wx, len_tM]
    generalize (M ++ (List.range W.length).map (fun r => Ob.lst (nats (A0 W r)))).length = q at *
    generalize (M ++ (List.range W.length).map (fun r => Ob.lst (nats (A0 W r))) ++ [.lst ((List.range W.length).map (fun (r : Nat) => D.ref (M.length + r)))]) = M1 at *
    refine ⟨rg_nat (by omega), ?_⟩
    rw [Int.toNat_natCast]
    refine wl_rg0 (fun i ρ M' => LdI M q W.length (AN W i) M' ∧ ∃ x2 x3 x4, ρ = [some (tM W), some (.ref q), x2, x3, x4, none]) ⟨I0, _, _, _, rfl⟩ (fun i ρ M' hi j => ?_) (fun ρ M' j => ?_)
    · obtain ⟨I, x2, x3, x4, rfl⟩ := j
      simp only [wp, wx, w__law_leads_F2, len_tM]
      refine ⟨rg_nat (by omega), ?_⟩
      rw [Int.toNat_natCast]
      have HA := AN_ok hW i (by omega)
      have HAl : ∀ r, r < W.length → (AN W i r).length ≤ W.length := fun r hr => nd_len (HA.nd r hr) fun y hy => (HA.lt r hr y hy).1
      refine wl_rg0 (fun r ρ M' => LdI M q W.length (fun s => if s < r then updA (AN W i) i s else AN W i s) M' ∧ ∃ x3 x4, ρ = [some (tM W), some (.ref q), some (.int (i : Int)), x3, x4, none]) ⟨by simpa using I, _, _, rfl⟩ (fun r ρ M' hr j => ?_) (fun ρ M' j => ?_)
      · obtain ⟨J, y3, y4, rfl⟩ := j
        obtain ⟨p, ep, hp⟩ := J.ix hr
        obtain ⟨pm, epm, hpm⟩ := J.ix hi
        have er : (if r < r then updA (AN W i) i r else AN W i r) = AN W i r := by simp
        have em : (if i < r then updA (AN W i) i i else AN W i i) = AN W i i := by split; exact updA_self; rfl
        rw [er] at hp
        rw [em] at hpm
        have nxt : ∀ {M2 : Mem}, updA (AN W i) i r = AN W i r → LdI M q W.length (fun s => if s < r then updA (AN W i) i s else AN W i s) M2 → LdI M q W.length (fun s => if s < r + 1 then updA (AN W i) i s else AN W i s) M2 := fun e J => by
          have : (fun s => if s < r + 1 then updA (AN W i) i s else AN W i s) = fun s => if s < r then updA (AN W i) i s else AN W i s := by
            funext s
            by_cases h1 : s < r
            · rw [if_pos h1, if_pos (by omega)]
            · by_cases h2 : s = r
              · subst h2; rw [if_pos (by omega), if_neg (by omega), e]
              · rw [if_neg h1, if_neg (by omega)]
          rw [this]; exact J
        simp only [wp, wx, w__law_leads_F1, ep, in_list hp, Bool.false_eq_true, if_false]
        by_cases hin : i ∈ AN W i r
        · simp only [hin, decide_true, wp, wx, epm, src_ref hpm, nats]
          refine wc_fltL (fun (y : Nat) => D.int (y : Int)) (fun (y : Nat) => D.int (y : Int)) (fun y => decide (y ∉ AN W i r)) (AN W i i) (chk_one hpm) (fun y _ => ?_) ?_
          · simp only [wp, wx]
            refine ⟨wb_eq ?_, fun _ => ?_⟩
            · simp only [wp, wx, w__law_leads_C1, ep, in_list hp, if_true]
              simp
            · simp only [wp, wx, w__law_leads_E1]
              exact ⟨rfl, rfl⟩
          · have J2 := J.app [Ob.lst (((AN W i i).filter fun y => decide (y ∉ AN W i r)).map fun (y : Nat) => D.int (y : Int))]
            obtain ⟨p2, ep2, hp2⟩ := J2.ix hr
            rw [er] at hp2
            have h4 : (M' ++ [Ob.lst (((AN W i i).filter fun y => decide (y ∉ AN W i r)).map fun (y : Nat) => D.int (y : Int))])[M'.length]? = some (.lst (((AN W i i).filter fun y => decide (y ∉ AN W i r)).map fun (y : Nat) => D.int (y : Int))) := get_end rfl
            have l1 := HAl r hr
            have l2 := HAl i hi
            have l3 := List.length_filter_le (fun y => decide (y ∉ AN W i r)) (AN W i i)
            simp only [wp, wx, ep2]
            rw [add_rr hp2 h4 (by simp only [List.length_map]; omega)]
            have eU : nats (AN W i r) ++ (((AN W i i).filter fun y => decide (y ∉ AN W i r)).map fun (y : Nat) => D.int (y : Int)) = nats (updA (AN W i) i r) := by
              unfold updA
              rw [if_pos hin]
              simp [nats]
            rw [eU]
            generalize M' ++ [Ob.lst (((AN W i i).filter fun y => decide (y ∉ AN W i r)).map fun (y : Nat) => D.int (y : Int))] = M2 at *
            have J3 := J2.app [Ob.lst (nats (updA (AN W i) i r))]
            have hk : (M2 ++ [Ob.lst (nats (updA (AN W i) i r))])[M2.length]? = some (.lst (nats (updA (AN W i) i r))) := get_end rfl
            simp only [wp, wx]
            obtain ⟨⟨ps, g1, g2, g3⟩, ⟨es, ge⟩, gl, gn⟩ := J3
            have hrp : r < (ps.map D.ref).length := by simp; omega
            have hM2 : M.length ≤ M2.length := by
              obtain ⟨es2, e2⟩ := J2.ap
              rw [e2]; simp
            simp only [sto_g g1 hrp, wp, wx]
            refine ⟨⟨⟨ps.set r M2.length, by rw [get_put g1, ← List.map_set], by simp [g2], fun s hs => ?_⟩, ?_, gl, fun s hs => ?_⟩, _, _, rfl⟩
            · simp only [List.length_set] at hs
              by_cases e : s = r
              · subst e
                simp only [List.getElem_set_self]
                refine ⟨?_, hM2⟩
                rw [List.getElem?_set_ne (fun z => ?_)]
                · rw [hk, if_pos (by omega)]
                · rw [← z] at hk
                  rw [g1] at hk
                  simp only [Option.some.injEq, Ob.lst.injEq] at hk
                  have hu : updA (AN W i) i s ≠ [] := fun z => by
                    have := updA_mem.mpr (.inl (HA.self s hr) : s ∈ AN W i s ∨ (i ∈ AN W i s ∧ s ∈ AN W i i))
                    rw [z] at this; simp at this
                  cases hps : ps with
                  | nil => rw [hps] at hs; simp at hs
                  | cons a b =>
                    cases hu2 : updA (AN W i) i s with
                    | nil => exact hu hu2
                    | cons c d => rw [hps, hu2] at hk; simp [nats] at hk
              · rw [List.getElem_set_ne (fun z => e z.symm)]
                obtain ⟨g4, g5⟩ := g3 s hs
                refine ⟨?_, g5⟩
                rw [List.getElem?_set_ne (fun z => ?_), g4]
                · by_cases h1 : s < r
                  · rw [if_pos h1, if_pos (by omega)]
                  · rw [if_neg h1, if_neg (by omega)]
                · rw [← z, g1] at g4
                  simp only [Option.some.injEq, Ob.lst.injEq] at g4
                  have hne := gn s (by omega)
                  cases hps : ps with
                  | nil => rw [hps] at hs; simp at hs
                  | cons a b =>
                    cases hu2 : (if s < r then updA (AN W i) i s else AN W i s) with
                    | nil => exact hne hu2
                    | cons c d => rw [hps, hu2] at g4; simp [nats] at g4
            · rw [ge]; exact set_appx gl _
            · have hu : ∀ s, s < W.length → updA (AN W i) i s ≠ [] := fun s hs z => by
                have := updA_mem.mpr (.inl (HA.self s hs) : s ∈ AN W i s ∨ (i ∈ AN W i s ∧ s ∈ AN W i i))
                rw [z] at this; simp at this
              have hu2 : AN W i s ≠ [] := fun z => by have := HA.self s hs; rw [z] at this; simp at this
              split
              · exact hu s hs
              · exact hu2
        · simp only [hin, decide_false, wp, wx]
          exact ⟨nxt (by unfold updA; rw [if_neg hin]) J, _, _, rfl⟩
      · obtain ⟨J, y3, y4, rfl⟩ := j
        simp only [wp, wx]
        refine ⟨?_, _, _, _, rfl⟩
        obtain ⟨⟨ps, g1, g2, g3⟩, ge, gl, gn⟩ := J
        refine ⟨⟨ps, g1, g2, fun r hr => ?_⟩, ge, gl, fun r hr => ?_⟩
        · obtain ⟨g4, g5⟩ := g3 r hr
          rw [if_pos (by omega)] at g4
          exact ⟨g4, g5⟩
        · have := gn r hr
          rw [if_pos hr] at this
          exact this
    · obtain ⟨I, x2, x3, x4, rfl⟩ := j
      simp only [wp, wx]
      have I' := I
      obtain ⟨⟨ps, g1, g2, g3⟩, ⟨es, rfl⟩, gl, gn⟩ := I
      rw [kFn_rt]
      unfold shut
      have hok : okM M (M ++ es) := okM_app M es
      have hlo : ¬ D.lo M.length (.ref q) := by simp; omega
      have hlo2 : ¬ Ob.lo M.length (.lst (ps.map D.ref)) := by
        show ¬ loL _ _
        rw [loL_iff]
        intro h
        have hps : 0 < ps.length := by omega
        have := h (.ref ps[0]) (List.mem_map.mpr ⟨_, List.getElem_mem hps, rfl⟩)
        have h2 := (g3 0 hps).2
        simp at this
        omega
      rw [if_pos hok]
      simp only [if_neg hlo, g1, if_neg hlo2]
      exact k q _ I'
theorem parts_w {W : List (List Nat)} {l : Nat} (hW : Mach W l) (h0 : 0 < W.length) (hb : W.length ≤ 1000) (hl : l ≤ 60) {M : Mem} {K : PO2} (k : K (.o (.lst (((cpN W l W.length).map tN).mergeSort leD))) M) : WO (m__law_parts [tM W] M) K := by
  classical
  unfold m__law_parts
  simp only [wp, wx, wf, Nat.reduceSub, len_tM]
  refine leads_w hW h0 hb hl fun q M1 I => ?_
  have HA := AN_ok hW W.length (Nat.le_refl _)
  obtain ⟨es, rfl⟩ := I.ap
  simp only [wp, wx, len_tM]
  refine ⟨rg_nat (by omega), ?_⟩
  rw [Int.toNat_natCast]
  have hg : ∀ u : Ob, (M ++ es ++ [u])[(M ++ es).length]? = some u := fun u => get_end rfl
  refine wl_rg0 (fun i ρ M' => M' = M ++ es ++ [.lst ((cpN W l i).map tN)] ∧ ∃ x3 x4, ρ = [some (tM W), some (.ref q), some (.ref (M ++ es).length), x3, x4, none]) ⟨rfl, none, none, rfl⟩ (fun i ρ M' hi j => ?_) (fun ρ M' j => ?_)
  · obtain ⟨rfl, x3, x4, rfl⟩ := j
    have hcl := cpN_len W l i
    have J := I.app [Ob.lst ((cpN W l i).map tN)]
    obtain ⟨p, ep, hp⟩ := J.ix hi
    have hAl : (AN W W.length i).length ≤ W.length := nd_len (HA.nd i hi) fun y hy => (HA.lt i hi y hy).1
    have es1 := srt_nats (HA.perm hi) (rchS_lt W l i) (by omega) (x := .v (.ref p)) (M := M ++ es ++ [.lst ((cpN W l i).map tN)]) (by simp only [seqOf, hp])
    simp only [wp, wx, w__law_parts_F1, ep, es1, tup_ol, tN_eq, in_tNs (hg _), if_true]
    by_cases hin : rchS W l i ∈ cpN W l i
    · simp only [hin, decide_true, Bool.not_true, wp, wx]
      refine ⟨?_, _, _, rfl⟩
      rw [cpN, if_neg (fun z => z.1 hin)]
    · simp only [hin, decide_false, Bool.not_false, wp, wx, src_tN, nats]
      refine wc_map (fun (r : Nat) => D.int (r : Int)) (fun (y : Nat) => D.bl (decide (i ∈ rchS W l y))) (rchS W l i) (fun y hy => ?_) ?_
      · have hyl := (rchS_mem.mp hy).1
        obtain ⟨py, epy, hpy⟩ := J.ix hyl
        simp only [wp, wx, w__law_parts_E1, epy, in_list hpy, Bool.false_eq_true, if_false]
        refine ⟨?_, rfl⟩
        congr 2
        rw [decide_eq_decide]
        exact (HA.perm hyl).mem_iff.symm
      · have eall : ∀ M : Mem, allF (.o (.lst ((rchS W l i).map fun y => D.bl (decide (i ∈ rchS W l y))))) M = some (.v (.bl ((rchS W l i).all fun y => decide (i ∈ rchS W l y))), M) := fun M => all_map (fun y => decide (i ∈ rchS W l y)) _ M
        simp only [wp, wx, eall]
        cases hall : (rchS W l i).all fun y => decide (i ∈ rchS W l y) with
        | false =>
          simp only [wp, wx]
          refine ⟨?_, _, _, rfl⟩
          rw [cpN, if_neg]
          rintro ⟨_, h⟩
          have : ((rchS W l i).all fun y => decide (i ∈ rchS W l y)) = true := List.all_eq_true.mpr fun y hy => by simpa using h y hy
          rw [this] at hall; cases hall
        | true =>
          simp only [wp, wx, isT_ref (hg _), app_ref (hg _) (show ((cpN W l i).map tN).length ≤ 90000 by simp; omega), set_end rfl]
          refine ⟨?_, _, _, rfl⟩
          rw [cpN, if_pos ⟨hin, fun y hy => by simpa using List.all_eq_true.mp hall y hy⟩]
          simp
  · obtain ⟨rfl, x2, x3, rfl⟩ := j
    have hcl := cpN_len W l W.length
    have hne : ∀ p ∈ cpN W l W.length, p ≠ [] := fun p hp e => by
      obtain ⟨x, hx, rfl⟩ := cpN_mem W l _ p hp
      have : x ∈ rchS W l x := rchS_mem.mpr ⟨hx, Rch.refl x⟩
      rw [e] at this; simp at this
    have es2 := srt_parts hne (by omega) (x := .v (.ref (M ++ es).length)) (M := M ++ es ++ [.lst ((cpN W l W.length).map tN)]) (by simp only [seqOf, hg])
    simp only [wp, wx, es2]
    rw [List.append_assoc, kFn_oa (b := .lst _) (by
      show loL _ _
      rw [loL_iff]
      intro d hd
      obtain ⟨p, _, rfl⟩ := List.mem_map.mp ((List.mergeSort_perm _ _).mem_iff.mp hd)
      simp)]
    exact k
noncomputable def _law_phases_E1 (ρ : Env) (m : Mem) : Option (Out × Mem) := (eBin dixF (eVar 3) (eVar 8)) ρ m
theorem w__law_phases_E1 {ρ : Env} {M : Mem} {Q : PO2} : WE _law_phases_E1 ρ M Q ↔ WE (eBin dixF (eVar 3) (eVar 8)) ρ M Q := Iff.rfl
noncomputable def _law_phases_F1 (ρ : Env) (m : Mem) : Option R := (sSeq (sIf (bOf (eBin (dinF true) (eVar 7) (eVar 3))) (sSeq (sPut (eVar 6) (gDx (eVar 3) (eVar 7)))
    (sDo (eMt1 "list" appF (eVar 4) (eVar 7)))) sNil)
    (sIf (bOf (eBin neF (eBin dixF (eVar 3) (eVar 7)) (eVar 6))) (sRet (eC .non)) sNil)) ρ m
theorem w__law_phases_F1 {ρ : Env} {M : Mem} {Q : R → Prop} : WS _law_phases_F1 ρ M Q ↔ WS (sSeq (sIf (bOf (eBin (dinF true) (eVar 7) (eVar 3))) (sSeq (sPut (eVar 6) (gDx (eVar 3) (eVar 7)))
    (sDo (eMt1 "list" appF (eVar 4) (eVar 7)))) sNil)
    (sIf (bOf (eBin neF (eBin dixF (eVar 3) (eVar 7)) (eVar 6))) (sRet (eC .non)) sNil)) ρ M Q := Iff.rfl
noncomputable def _law_phases_T1 (ρ : Env) (m : Mem) : Option (Bool × Mem) := (bOf (eBin ltF (eVar 5) (eUn lenF (eVar 4)))) ρ m
theorem w__law_phases_T1 {ρ : Env} {M : Mem} {Q : Bool → Mem → Prop} : WB _law_phases_T1 ρ M Q ↔ WB (bOf (eBin ltF (eVar 5) (eUn lenF (eVar 4)))) ρ M Q := Iff.rfl
noncomputable def _law_phases_W1 (ρ : Env) (m : Mem) : Option R := (sSeq (sSet 6 (eBin modF (eBin addF (eBin dixF (eVar 3) (eBin ixF (eVar 4) (eVar 5))) (eC (.int 1))) (eVar 2)))
    (sSeq (sFor (iE (eBin ixF (eVar 0) (eBin ixF (eVar 4) (eVar 5)))) (gT (.nm 7)) _law_phases_F1)
    (sAug 5 augAdd (eC (.int 1))))) ρ m
theorem w__law_phases_W1 {ρ : Env} {M : Mem} {Q : R → Prop} : WS _law_phases_W1 ρ M Q ↔ WS (sSeq (sSet 6 (eBin modF (eBin addF (eBin dixF (eVar 3) (eBin ixF (eVar 4) (eVar 5))) (eC (.int 1))) (eVar 2)))
    (sSeq (sFor (iE (eBin ixF (eVar 0) (eBin ixF (eVar 4) (eVar 5)))) (gT (.nm 7)) _law_phases_F1)
    (sAug 5 augAdd (eC (.int 1))))) ρ M Q := Iff.rfl
noncomputable def m__law_phases : Fn := fnD 3 9
    (sSeq (sSet 3 (eBin dispF (eBin ixF (eVar 1) (eC (.int 0))) (eC (.int 0))))
    (sSeq (sSet 4 (eLst (aCons (eBin ixF (eVar 1) (eC (.int 0))) aNil)))
    (sSeq (sSet 5 (eC (.int 0)))
    (sSeq (sWhile _law_phases_T1 _law_phases_W1)
    (sRet (eUn tupF (eComp (iE (eVar 1)) [8] (.nm 8) bYes _law_phases_E1)))))))
noncomputable def _law_beats_T1 (ρ : Env) (m : Mem) : Option (Bool × Mem) := (bOf (eBin (isF false) (eCall m__law_phases (aCons (eVar 0) (aCons (eVar 2) (aCons (eVar 3) aNil)))) (eC .non))) ρ m
theorem w__law_beats_T1 {ρ : Env} {M : Mem} {Q : Bool → Mem → Prop} : WB _law_beats_T1 ρ M Q ↔ WB (bOf (eBin (isF false) (eCall m__law_phases (aCons (eVar 0) (aCons (eVar 2) (aCons (eVar 3) aNil)))) (eC .non))) ρ M Q := Iff.rfl
noncomputable def _law_beats_W1 (ρ : Env) (m : Mem) : Option R := (sAug 3 augSub (eC (.int 1))) ρ m
theorem w__law_beats_W1 {ρ : Env} {M : Mem} {Q : R → Prop} : WS _law_beats_W1 ρ M Q ↔ WS (sAug 3 augSub (eC (.int 1))) ρ M Q := Iff.rfl
noncomputable def _law_beats_F1 (ρ : Env) (m : Mem) : Option R := (sSeq (sSet 3 (eUn lenF (eVar 2)))
    (sSeq (sWhile _law_beats_T1 _law_beats_W1)
    (sDo (eMt1 "list" appF (eVar 1) (eTup (aCons (eVar 2) (aCons (eVar 3) (aCons (eCall m__law_phases (aCons (eVar 0) (aCons (eVar 2) (aCons (eVar 3) aNil)))) aNil)))))))) ρ m
theorem w__law_beats_F1 {ρ : Env} {M : Mem} {Q : R → Prop} : WS _law_beats_F1 ρ M Q ↔ WS (sSeq (sSet 3 (eUn lenF (eVar 2)))
    (sSeq (sWhile _law_beats_T1 _law_beats_W1)
    (sDo (eMt1 "list" appF (eVar 1) (eTup (aCons (eVar 2) (aCons (eVar 3) (aCons (eCall m__law_phases (aCons (eVar 0) (aCons (eVar 2) (aCons (eVar 3) aNil)))) aNil)))))))) ρ M Q := Iff.rfl
noncomputable def m__law_beats : Fn := fnD 1 4
    (sSeq (sSet 1 (eLst aNil))
    (sSeq (sFor (iE (eCall m__law_parts (aCons (eVar 0) aNil))) (gT (.nm 2)) _law_beats_F1)
    (sRet (eUn tupF (eVar 1)))))
theorem srch_pre (W : List (List Nat)) : ∀ (f at_ : Nat) (st : List (Nat × Nat)), ∃ e, srchN W f at_ st = st ++ e
  | 0, _, st => ⟨[], by simp [srchN]⟩
  | f + 1, at_, st => by
    rw [srchN]
    cases st[at_]? with
    | none => exact ⟨[], by simp⟩
    | some c =>
      obtain ⟨e1, h1⟩ := scanN_pre (W.getD c.1 []) (c.2 + 1) st
      obtain ⟨e2, h2⟩ := srch_pre W f (at_ + 1) (scanN (W.getD c.1 []) (c.2 + 1) st)
      exact ⟨e1 ++ e2, by show srchN W f (at_ + 1) _ = _; rw [h2, h1, List.append_assoc]⟩
theorem lkN_app {st e : List (Nat × Nat)} {y k : Nat} (h : lkN st y = some k) : lkN (st ++ e) y = some k := by
  unfold lkN at *
  rw [List.find?_append]
  obtain ⟨c, hc, e2⟩ := Option.map_eq_some_iff.mp h
  rw [hc]
  simpa using e2
def mS (b : Nat) (st : List (Nat × Nat)) : List (Nat × Nat) := st.map fun c => (c.1, c.2 % b)
theorem mS_keys (b : Nat) (st : List (Nat × Nat)) : (mS b st).map (·.1) = st.map (·.1) := by simp [mS, Function.comp_def]
theorem mS_app (b : Nat) (st : List (Nat × Nat)) (y k : Nat) : mS b (st ++ [(y, k)]) = mS b st ++ [(y, k % b)] := by simp [mS]
theorem lkN_mS (b : Nat) (st : List (Nat × Nat)) (y : Nat) : lkN (mS b st) y = (lkN st y).map (· % b) := by
  induction st with
  | nil => rfl
  | cons c st ih =>
    unfold lkN mS at ih ⊢
    rw [List.map_cons, List.find?_cons, List.find?_cons]
    by_cases h : c.1 = y
    · simp [h]
    · simp only [h, decide_false]
      exact ih
theorem phases_w {W : List (List Nat)} {l : Nat} (hW : Mach W l) (hb : W.length ≤ 1000) {p0 : Nat} {pt : List Nat} (hx : p0 < W.length) (he : p0 :: pt = rchS W l p0) {b : Nat} (hbp : 0 < b) {M : Mem} {K : PO2}
    (k1 : b ∣ btN W (sN (stepsN W p0)) (p0 :: pt) → K (.v (tN ((p0 :: pt).map fun y => sN (stepsN W p0) y % b))) M) (k2 : ¬ b ∣ btN W (sN (stepsN W p0)) (p0 :: pt) → K (.v .non) M) : WO (m__law_phases [tM W, tN (p0 :: pt), .int (b : Int)] M) K := by
  unfold m__law_phases
  have g2 : ∀ u v : Ob, (M ++ [u] ++ [v])[M.length]? = some u := fun u v => get_app (get_end rfl)
  have g3 : ∀ u v : Ob, (M ++ [u] ++ [v])[M.length + 1]? = some v := fun u v => get_end (by simp)
  have s2 : ∀ u v o : Ob, (M ++ [u] ++ [v]).set M.length o = M ++ [o] ++ [v] := fun u v o => by simp
  have s3 : ∀ u v o : Ob, (M ++ [u] ++ [v]).set (M.length + 1) o = M ++ [u] ++ [o] := fun u v o => by simp
  have e0 : ∀ M : Mem, ixF (.v (tN (p0 :: pt))) (.v (.int 0)) M = some (.v (.int (p0 : Int)), M) := fun M => ix_nat (w := p0 :: pt) (r := 0) (by simp) M
  have ed : ∀ M : Mem, dispF (.v (.int (p0 : Int))) (.v (.int 0)) M = some (.o (.dcr [(.int (p0 : Int), .int 0)]), M) := fun M => by simp [dispF, keyi]
  have el : ∀ u : Ob, (M ++ [u]).length = M.length + 1 := fun u => by simp
  have hbi : (0 : Int) < (b : Int) := by omega
  obtain ⟨IF, hcF⟩ := stepsN_ok hW hx
  have part_mem : ∀ c ∈ stepsN W p0, c.1 ∈ p0 :: pt := fun c hc => by rw [he, ← steps_keys hW hx]; exact List.mem_map.mpr ⟨c, hc, rfl⟩
  have sval : ∀ {st e : List (Nat × Nat)} {y k : Nat}, stepsN W p0 = st ++ e → lkN st y = some k → sN (stepsN W p0) y = k := fun h1 h2 => by unfold sN; rw [h1, lkN_app h2]; rfl
  simp only [wp, wx, wf, Nat.reduceSub, e0, ed, el]
  refine wfu (fun n ρ M' => ∃ (st : List (Nat × Nat)) (at_ : Nat), M' = M ++ [.dcr (iD (mS b st))] ++ [.lst (nats (st.map (·.1)))] ∧ SrI W l p0 st ∧ at_ ≤ st.length ∧ srchN W (W.length + 1 - at_) at_ st = stepsN W p0 ∧ (∀ j (hj : j < st.length), j < at_ → ∀ g ∈ W.getD st[j].1 [], b ∣ difN (sN (stepsN W p0)) st[j].1 g) ∧ n = W.length - at_ ∧ ∃ x6 x7, ρ = [some (tM W), some (tN (p0 :: pt)), some (.int (b : Int)), some (.ref M.length), some (.ref (M.length + 1)), some (.int (at_ : Int)), x6, x7, none]) (n0 := W.length) (by omega) ⟨[(p0, 0)], 0, by simp [mS, iD], ⟨by simp, by simp [hx, Rch.refl], rfl, by simp, by simp⟩, by simp, rfl, by simp, rfl, none, none, rfl⟩ (fun n ρ M' j => ?_)
  obtain ⟨st, at_, rfl, I, hat, hs, hok, rfl, x6, x7, rfl⟩ := j
  have hl := nd_len I.nd fun y hy => by obtain ⟨c, hc, rfl⟩ := List.mem_map.mp hy; exact (I.lt c hc).1
  rw [List.length_map] at hl
  simp only [wp, wx, w__law_phases_T1, len_ref (g3 _ _), ltF, cmp_int, List.length_map]
  by_cases hlt : at_ < st.length
  · have hlt' : (at_ : Int) < (st.length : Int) := by omega
    have hcm := List.getElem_mem hlt
    have hc1 := (I.lt _ hcm).1
    have hm1 : at_ < (st.map (·.1)).length := by simpa using hlt
    have em : (st.map (·.1))[at_] = st[at_].1 := by simp
    have hstep : srchN W (W.length + 1 - (at_ + 1)) (at_ + 1) (scanN (W.getD st[at_].1 []) (st[at_].2 + 1) st) = stepsN W p0 := by
      rw [← hs, show W.length + 1 - at_ = (W.length + 1 - (at_ + 1)) + 1 by omega, srchN, List.getElem?_eq_getElem hlt]
    obtain ⟨e9, h9⟩ := srch_pre W (W.length + 1 - (at_ + 1)) (at_ + 1) (scanN (W.getD st[at_].1 []) (st[at_].2 + 1) st)
    rw [hstep] at h9
    have hrow : W.getD st[at_].1 [] = W[st[at_].1] := by simp [List.getD, hc1]
    have hlk : lkN st st[at_].1 = some st[at_].2 := (lkN_mem I.nd).mpr hcm
    generalize hcc : st[at_] = c at *
    have hlkm : lkN (mS b st) c.1 = some (c.2 % b) := by rw [lkN_mS, hlk]; rfl
    have hsc0 : sN (stepsN W p0) c.1 = c.2 := by
      obtain ⟨e8, h8⟩ := scanN_pre (W.getD c.1 []) (c.2 + 1) st
      exact sval (by rw [h9, h8, List.append_assoc]) hlk
    have e1 : ((c.2 % b : Nat) : Int) + 1 = ((c.2 % b + 1 : Nat) : Int) := by omega
    have e2 : ∀ M : Mem, modF (.v (.int ((c.2 % b + 1 : Nat) : Int))) (.v (.int (b : Int))) M = some (.v (.int (((c.2 + 1) % b : Nat) : Int)), M) := fun M => by
      rw [mod_int, if_pos hbi]
      have : ((c.2 % b + 1 : Nat) : Int) % (b : Int) = (((c.2 % b + 1) % b : Nat) : Int) := rfl
      rw [this, Nat.mod_add_mod]
    simp only [hlt', decide_true, kWh_t, wp, wx, w__law_phases_W1, ixn_at (g3 _ _) hm1, em, dix_iD (g2 _ _) hlkm, add_int, e1, e2, ix_row hc1, src_tN, nats]
    refine wl_typ (fun (r : Nat) => D.int (r : Int)) W[c.1] (fun i ρ M' => ∃ e : List (Nat × Nat), scanN ((W[c.1]).take i) (c.2 + 1) st = st ++ e ∧ M' = M ++ [.dcr (iD (mS b (st ++ e)))] ++ [.lst (nats ((st ++ e).map (·.1)))] ∧ SrI W l p0 (st ++ e) ∧ (∀ g ∈ (W[c.1]).take i, b ∣ difN (sN (stepsN W p0)) c.1 g) ∧ ∃ x7, ρ = [some (tM W), some (tN (p0 :: pt)), some (.int (b : Int)), some (.ref M.length), some (.ref (M.length + 1)), some (.int (at_ : Int)), some (.int (((c.2 + 1) % b : Nat) : Int)), x7, none]) ⟨[], by simp [scanN], by simp, by simpa using I, by simp, _, rfl⟩ (fun i hi ρ M' j => ?_) (fun ρ M' j => ?_)
    · obtain ⟨e, hee, rfl, I2, hdn, y7, rfl⟩ := j
      have hl2 := nd_len I2.nd fun y hy => by obtain ⟨c, hc, rfl⟩ := List.mem_map.mp hy; exact (I2.lt c hc).1
      rw [List.length_map] at hl2
      have hyr := row_ways hW hc1 W[c.1][i] (by rw [hrow]; exact List.getElem_mem hi)
      have htk : (W[c.1]).take (i + 1) = (W[c.1]).take i ++ [W[c.1][i]] := by rw [List.take_add_one, List.getElem?_eq_getElem hi]; rfl
      have hsc : scanN ((W[c.1]).take (i + 1)) (c.2 + 1) st = visN (c.2 + 1) (st ++ e) W[c.1][i] := by
        rw [htk, ← hee]
        unfold scanN
        rw [List.foldl_append]
        rfl
      obtain ⟨e7, h7⟩ := scanN_pre ((W[c.1]).drop (i + 1)) (c.2 + 1) (scanN ((W[c.1]).take (i + 1)) (c.2 + 1) st)
      have hfull : stepsN W p0 = visN (c.2 + 1) (st ++ e) W[c.1][i] ++ (e7 ++ e9) := by
        have : scanN (W.getD c.1 []) (c.2 + 1) st = scanN ((W[c.1]).drop (i + 1)) (c.2 + 1) (scanN ((W[c.1]).take (i + 1)) (c.2 + 1) st) := by
          rw [hrow]
          conv => lhs; rw [← List.take_append_drop (i + 1) W[c.1]]
          unfold scanN
          rw [List.foldl_append]
        rw [h9, this, h7, hsc, List.append_assoc]
      have I3 := I2.vis (u := c) (by simp [hcm]) hyr.1 hyr.2
      have hgrow : W[c.1][i] ∈ W.getD c.1 [] := by rw [hrow]; exact List.getElem_mem hi
      generalize W[c.1][i] = gg at *
      have bad : ¬ b ∣ difN (sN (stepsN W p0)) c.1 gg → K (.v .non) M := fun hn => k2 fun hB => hn ((btN_dvd _ _ _).mp hB c.1 (part_mem c (by rw [hfull]; unfold visN; split <;> simp [hcm])) gg hgrow)
      have good : ∀ (v : Nat), lkN (visN (c.2 + 1) (st ++ e) gg) gg = some v → ((c.2 + 1) % b = v % b ↔ b ∣ difN (sN (stepsN W p0)) c.1 gg) := fun v hv => by
        rw [dif_mod hbp, hsc0, sval hfull hv]
      have more : b ∣ difN (sN (stepsN W p0)) c.1 gg → ∀ g ∈ (W[c.1]).take (i + 1), b ∣ difN (sN (stepsN W p0)) c.1 g := fun hd g hg => by
        rw [htk] at hg
        rcases List.mem_append.mp hg with hg | hg
        · exact hdn g hg
        · simp at hg; subst hg; exact hd
      simp only [wp, wx, w__law_phases_F1, din_iD (g2 _ _), if_true]
      by_cases hin : gg ∈ (st ++ e).map (·.1)
      · obtain ⟨v, hv⟩ : ∃ v, lkN (st ++ e) gg = some v := by
          cases hh : lkN (st ++ e) gg with
          | some v => exact ⟨v, rfl⟩
          | none => exact absurd hin (lkN_none.mp hh)
        have hvis : visN (c.2 + 1) (st ++ e) gg = st ++ e := by unfold visN; rw [if_pos hin]
        have hvm : lkN (mS b (st ++ e)) gg = some (v % b) := by rw [lkN_mS, hv]; rfl
        have hgd := good v (by rw [hvis]; exact hv)
        simp only [hvm, Option.isSome_some, Bool.not_true, wp, wx, dix_iD (g2 _ _) hvm, ne_int]
        by_cases hq : v % b = (c.2 + 1) % b
        · have hq' : ((v % b : Nat) : Int) = (((c.2 + 1) % b : Nat) : Int) := by omega
          simp only [hq', decide_true, Bool.not_true, wp, wx]
          exact ⟨e, by rw [hsc, hvis], rfl, I2, more (hgd.mp hq.symm), _, rfl⟩
        · have hq' : ¬ ((v % b : Nat) : Int) = (((c.2 + 1) % b : Nat) : Int) := by omega
          simp only [hq', decide_false, Bool.not_false, wp, wx]
          rw [List.append_assoc, kFn_va (by simp)]
          exact bad fun z => hq (hgd.mpr z).symm
      · have hnone : lkN (mS b (st ++ e)) gg = none := by rw [lkN_mS, lkN_none.mpr hin]; rfl
        have hvis : visN (c.2 + 1) (st ++ e) gg = st ++ (e ++ [(gg, c.2 + 1)]) := by unfold visN; rw [if_neg hin, List.append_assoc]
        have es := dsto_iD (k := (c.2 + 1) % b) (g2 (.dcr (iD (mS b (st ++ e)))) (.lst (nats ((st ++ e).map (·.1))))) (y := gg) (by rw [mS_keys]; exact hin) (by simp [mS]; simp at hl2; omega)
        rw [s2, ← mS_app] at es
        have hv : lkN (st ++ e ++ [(gg, c.2 + 1)]) gg = some (c.2 + 1) := (lkN_mem (by rw [hvis, ← List.append_assoc] at I3; exact I3.nd)).mpr (by simp)
        have hvm : lkN (mS b (st ++ e ++ [(gg, c.2 + 1)])) gg = some ((c.2 + 1) % b) := by rw [lkN_mS, hv]; rfl
        have hgd := good (c.2 + 1) (by rw [hvis, ← List.append_assoc]; exact hv)
        simp only [hnone, Option.isSome_none, Bool.not_false, wp, wx, es, isT_ref (g3 _ _), app_ref (g3 _ _) (show (nats ((st ++ e).map (·.1))).length ≤ 90000 by simp only [List.length_map]; omega), s3, dix_iD (g2 _ _) hvm, ne_int, decide_true, Bool.not_true]
        refine ⟨e ++ [(gg, c.2 + 1)], by rw [hsc, hvis], ?_, by rw [← hvis]; exact I3, more (hgd.mp rfl), _, rfl⟩
        simp [nats, List.append_assoc]
    · obtain ⟨e, hee, rfl, I2, hdn, y7, rfl⟩ := j
      have e3 : (at_ : Int) + 1 = ((at_ + 1 : Nat) : Int) := by omega
      rw [List.take_length] at hee hdn
      simp only [wp, wx, augAdd, e3]
      refine ⟨W.length - (at_ + 1), by omega, st ++ e, at_ + 1, rfl, I2, by simp; omega, by rw [← hee, ← hrow]; exact hstep, fun j hj hja g hgg => ?_, rfl, _, _, rfl⟩
      have hjs : j < st.length := by omega
      rw [List.getElem_append_left hjs] at hgg ⊢
      by_cases ej : j = at_
      · subst ej
        rw [hcc] at hgg ⊢
        rw [hrow] at hgg
        exact hdn g hgg
      · exact hok j hjs (by omega) g hgg
  · have hlt' : ¬ (at_ : Int) < (st.length : Int) := by omega
    have hfin : stepsN W p0 = st := by
      rw [← hs, show W.length + 1 - at_ = (W.length - at_) + 1 by omega, srchN, List.getElem?_eq_none (by omega)]
    have hB : b ∣ btN W (sN (stepsN W p0)) (p0 :: pt) := (btN_dvd _ _ _).mpr fun u hu g hgg => by
      rw [he, ← steps_keys hW hx, hfin] at hu
      obtain ⟨c, hc, rfl⟩ := List.mem_map.mp hu
      obtain ⟨j, hj, rfl⟩ := List.getElem_of_mem hc
      exact hok j hj (by omega) g hgg
    have k1 := k1 hB
    simp only [hlt', decide_false, kWh_f, wp, wx, src_tN, nats]
    refine wc_map (fun (r : Nat) => D.int (r : Int)) (fun (y : Nat) => D.int ((sN (stepsN W p0) y % b : Nat) : Int)) (p0 :: pt) (fun y hy => ?_) ?_
    · rw [he, ← steps_keys hW hx, hfin] at hy
      obtain ⟨c, hc, rfl⟩ := List.mem_map.mp hy
      have h1 : lkN st c.1 = some c.2 := (lkN_mem I.nd).mpr hc
      have h2 : lkN (mS b st) c.1 = some (c.2 % b) := by rw [lkN_mS, h1]; rfl
      have h3 : sN (stepsN W p0) c.1 = c.2 := by rw [hfin]; unfold sN; rw [h1]; rfl
      simp only [wp, wx, w__law_phases_E1, dix_iD (g2 _ _) h2, h3]
      exact ⟨rfl, rfl⟩
    · have et : (D.tup ((p0 :: pt).map fun (y : Nat) => D.int ((sN (stepsN W p0) y % b : Nat) : Int))) = tN ((p0 :: pt).map fun y => sN (stepsN W p0) y % b) := by simp [tN, nats]
      simp only [wp, wx, tup_ol, et]
      rw [List.append_assoc, kFn_va (by simp)]
      exact k1
theorem lbeats_w {W : List (List Nat)} {l : Nat} (hW : Mach W l) (h0 : 0 < W.length) (hl : 0 < l) (hl2 : l ≤ 60) (hb : W.length ≤ 1000) {Ps : List (List Nat)} (hPs : ((cpN W l W.length).map tN).mergeSort leD = Ps.map tN) (hP : ∀ p ∈ Ps, p ∈ cpN W l W.length) (hPl : Ps.length ≤ 1000) {M : Mem} {K : PO2} (k : K (.v (.tup (Ps.map (bD W)))) M) : WO (m__law_beats [tM W] M) K := by
  unfold m__law_beats
  simp only [wp, wx, wf, Nat.reduceSub]
  refine parts_w hW h0 hb hl2 ?_
  rw [hPs]
  have hg : ∀ u : Ob, (M ++ [u])[M.length]? = some u := fun u => get_end rfl
  simp only [wp, wx, src_ol]
  refine wl_typ tN Ps (fun i ρ M' => M' = M ++ [.lst ((Ps.take i).map (bD W))] ∧ ∃ x2 x3, ρ = [some (tM W), some (.ref M.length), x2, x3]) ⟨by simp, _, _, rfl⟩ (fun i hi ρ M' j => ?_) (fun ρ M' j => ?_)
  · obtain ⟨rfl, x2, x3, rfl⟩ := j
    have ht : Ps.take (i + 1) = Ps.take i ++ [Ps[i]] := by rw [List.take_add_one, List.getElem?_eq_getElem hi]; rfl
    obtain ⟨p0, pt, ep, hx, e⟩ := cp_head (hP _ (List.getElem_mem hi))
    rw [ep] at ht ⊢ e
    have hpos := beat_pos hW hl hx
    have hle := beat_le hW hl hx
    rw [← e] at hpos hle
    generalize hMM : M ++ [Ob.lst ((Ps.take i).map (bD W))] = M1 at *
    simp only [wp, wx, w__law_beats_F1, len_tN]
    have hlen : (p0 :: pt).length ≤ W.length := by rw [e]; exact nd_len (rchS_nd W l p0) fun y hy => (rchS_mem.mp hy).1
    refine wfu (fun n ρ M' => M1 = M' ∧ btN W (sN (stepsN W p0)) (p0 :: pt) ≤ n ∧ ρ = [some (tM W), some (.ref M.length), some (tN (p0 :: pt)), some (.int (n : Int))]) (n0 := (p0 :: pt).length) (by omega) ⟨rfl, hle, rfl⟩ (fun n ρ M' j => ?_)
    obtain ⟨rfl, hn, rfl⟩ := j
    simp only [wp, wx, w__law_beats_T1]
    refine phases_w hW hb hx e (b := n) (by omega) (fun hd => ?_) (fun hd => ?_)
    · have hnB : n = btN W (sN (stepsN W p0)) (p0 :: pt) := Nat.le_antisymm (Nat.le_of_dvd hpos hd) hn
      have ein : ∀ w : List Nat, ∀ M : Mem, isF false (.v (tN w)) (.v .non) M = some (.v (.bl false), M) := fun w M => by simp [isF, tN]
      simp only [wp, wx, ein, kWh_f]
      have hM1 : M1[M.length]? = some (.lst ((Ps.take i).map (bD W))) := by rw [← hMM]; exact hg _
      simp only [isT_ref hM1, wp, wx]
      refine phases_w hW hb hx e (b := n) (by omega) (fun _ => ?_) (fun hd2 => absurd hd hd2)
      simp only [wp, wx, app_ref hM1 (show ((Ps.take i).map (bD W)).length ≤ 90000 by simp; omega)]
      refine ⟨?_, _, _, rfl⟩
      rw [← hMM, set_end rfl, ht, hnB]
      simp [bD]
    · have ein : ∀ M : Mem, isF false (.v .non) (.v .non) M = some (.v (.bl true), M) := fun M => by simp [isF]
      have hne : n ≠ btN W (sN (stepsN W p0)) (p0 :: pt) := fun z => hd ⟨1, by rw [Nat.mul_one]; exact z.symm⟩
      have e1 : (n : Int) - 1 = ((n - 1 : Nat) : Int) := by omega
      simp only [wp, wx, ein, kWh_t, w__law_beats_W1, augSub, e1]
      exact ⟨n - 1, by omega, by omega, rfl⟩
  · obtain ⟨rfl, x2, x3, rfl⟩ := j
    rw [List.take_length]
    simp only [wp, wx, tup_ref (hg _)]
    rw [kFn_va (by
      simp only [lo_tup, loL_iff]
      intro d hd
      obtain ⟨p, _, rfl⟩ := List.mem_map.mp hd
      simp [bD])]
    exact k
noncomputable def m_is_whole : Fn := fnD 1 1
    (sRet (eAnd (eUn (isiF .int) (eVar 0)) (eNot (eUn (isiF .bool) (eVar 0)))))
noncomputable def is_row_E1 (ρ : Env) (m : Mem) : Option (Out × Mem) := (eAnd (eCall m_is_whole (aCons (eVar 2) aNil)) (eChain leF ltF (eC (.int 0)) (eVar 2) (eVar 1))) ρ m
theorem w_is_row_E1 {ρ : Env} {M : Mem} {Q : PO2} : WE is_row_E1 ρ M Q ↔ WE (eAnd (eCall m_is_whole (aCons (eVar 2) aNil)) (eChain leF ltF (eC (.int 0)) (eVar 2) (eVar 1))) ρ M Q := Iff.rfl
noncomputable def m_is_row : Fn := fnD 2 3
    (sRet (eAnd (eUn (isiF .tuple) (eVar 0)) (eUn allF (eComp (iE (eVar 0)) [2] (.nm 2) bYes is_row_E1))))
noncomputable def is_machine_E1 (ρ : Env) (m : Mem) : Option (Out × Mem) := (eBin eqF (eUn lenF (eVar 1)) (eUn lenF (eBin ixF (eVar 0) (eC (.int 0))))) ρ m
theorem w_is_machine_E1 {ρ : Env} {M : Mem} {Q : PO2} : WE is_machine_E1 ρ M Q ↔ WE (eBin eqF (eUn lenF (eVar 1)) (eUn lenF (eBin ixF (eVar 0) (eC (.int 0))))) ρ M Q := Iff.rfl
noncomputable def is_machine_E2 (ρ : Env) (m : Mem) : Option (Out × Mem) := (eCall m_is_row (aCons (eVar 1) (aCons (eUn lenF (eVar 0)) aNil))) ρ m
theorem w_is_machine_E2 {ρ : Env} {M : Mem} {Q : PO2} : WE is_machine_E2 ρ M Q ↔ WE (eCall m_is_row (aCons (eVar 1) (aCons (eUn lenF (eVar 0)) aNil))) ρ M Q := Iff.rfl
noncomputable def m_is_machine : Fn := fnD 1 2
    (sSeq (sIf (bOr (bNot (bOf (eUn (isiF .tuple) (eVar 0)))) (bOr (bOf (eBin eqF (eUn lenF (eVar 0)) (eC (.int 0)))) (bNot (bOf (eUn allF (eComp (iE (eVar 0)) [1] (.nm 1) bYes is_machine_E2)))))) (sRet (eC (.bl false))) sNil)
    (sRet (eAnd (eBin gtF (eUn lenF (eBin ixF (eVar 0) (eC (.int 0)))) (eC (.int 0))) (eUn allF (eComp (iE (eVar 0)) [1] (.nm 1) bYes is_machine_E1)))))
theorem whole_eq {M : Mem} {d : D} (h : kn M d) : m_is_whole [d] M = some (.v (.bl (wholeB d)), M) := by
  refine wo_eq ?_
  unfold m_is_whole
  simp only [wp, wx, wf, isi_intB h]
  have lo : ∀ b : Bool, (D.bl b).lo M.length := by simp
  cases d <;> simp only [isIntB, wp, wx, isi_blB h, isBlB, wholeB, kFn_v (lo _)] <;> exact ⟨rfl, rfl⟩
def inB (n : Int) : D → Bool
  | .int i => decide (0 ≤ i) && decide (i < n)
  | _ => false
def rowB (n : Int) : D → Bool
  | .tup xs => xs.all (inB n)
  | _ => false
theorem row_eq {M : Mem} {d : D} (h : kn M d) (n : Int) : m_is_row [d, .int n] M = some (.v (.bl (rowB n d)), M) := by
  refine wo_eq ?_
  have lo : ∀ b : Bool, (D.bl b).lo M.length := by simp
  unfold m_is_row
  simp only [wp, wx, wf, Nat.reduceSub, isi_tup h]
  cases d with
  | tup xs =>
    simp only [isTupB, wp, wx, src_tup]
    refine wc_mapD (fun d => .bl (inB n d)) xs (fun y hy => ?_) ?_
    · have hk := kn_tup h y hy
      simp only [wp, wx, w_is_row_E1, whole_eq hk]
      cases y with
      | int i =>
        simp only [wholeB, wp, wx, leF, ltF, cmp_int]
        by_cases h1 : 0 ≤ i
        · simp only [h1, decide_true, wp, wx, ltF, cmp_int]; exact ⟨by simp [inB, h1], rfl⟩
        · simp only [h1, decide_false, wp, wx]; exact ⟨by simp [inB, h1], rfl⟩
      | _ => simp only [wholeB, wp, wx]; exact ⟨rfl, rfl⟩
    · simp only [wp, wx, all_map, kFn_v (lo _)]
      exact ⟨rfl, rfl⟩
  | _ => simp only [isTupB, wp, wx, kFn_v (lo _)]; exact ⟨rfl, rfl⟩
def lenD : D → Nat
  | .tup xs => xs.length
  | _ => 0
/-- is it a machine? -/
def machB : D → Bool
  | .tup rows => !rows.isEmpty && rows.all (rowB rows.length) && decide (0 < lenD (rows.headD .non)) && rows.all fun r => decide (lenD r = lenD (rows.headD .non))
  | _ => false
theorem rowB_tup {n : Int} {d : D} (h : rowB n d = true) : ∃ xs, d = .tup xs := by
  cases d with
  | tup xs => exact ⟨xs, rfl⟩
  | _ => simp [rowB] at h
theorem machine_eq {M : Mem} {d : D} (h : kn M d) : m_is_machine [d] M = some (.v (.bl (machB d)), M) := by
  refine wo_eq ?_
  have lo : ∀ b : Bool, (D.bl b).lo M.length := by simp
  unfold m_is_machine
  simp only [wp, wx, wf, Nat.reduceSub, isi_tup h]
  cases d with
  | tup rows =>
    simp only [isTupB, wp, wx, len_tup, eq_int]
    cases rows with
    | nil => simp only [List.length_nil, Int.ofNat_zero, Int.natCast_zero, decide_true, wp, wx, kFn_v (lo _)]; exact ⟨by simp [machB], rfl⟩
    | cons r0 rs =>
      have hne : ¬ (((r0 :: rs).length : Nat) : Int) = 0 := by simp; omega
      simp only [hne, decide_false, wp, wx, src_tup]
      generalize hrows : r0 :: rs = rows at h ⊢
      refine wc_mapD (fun d => .bl (rowB rows.length d)) rows (fun y hy => ?_) ?_
      · have hk := kn_tup h y hy
        simp only [wp, wx, w_is_machine_E2, len_tup, row_eq hk]
        exact ⟨rfl, rfl⟩
      · simp only [wp, wx, all_map]
        by_cases ha : rows.all (rowB rows.length) = true
        · simp only [ha, wp, wx]
          have h0 : ixF (.v (.tup rows)) (.v (.int 0)) M = some (.v r0, M) := by subst hrows; simp [ixF, seqOf, atI, ixN]
          have hr0 : rowB rows.length r0 = true := by rw [List.all_eq_true] at ha; exact ha r0 (by subst hrows; simp)
          obtain ⟨x0, rfl⟩ := rowB_tup hr0
          simp only [h0, wp, wx, len_tup, gtF, cmp_int]
          have hhd : rows.headD .non = .tup x0 := by subst hrows; rfl
          by_cases hp : 0 < x0.length
          · have hp' : (x0.length : Int) > 0 := by omega
            simp only [hp', decide_true, wp, wx, src_tup]
            refine wc_mapD (fun d => .bl (decide (lenD d = lenD (.tup x0)))) rows (fun y hy => ?_) ?_
            · rw [List.all_eq_true] at ha
              obtain ⟨xs, rfl⟩ := rowB_tup (ha y hy)
              simp only [wp, wx, w_is_machine_E1, len_tup, h0, eq_int]
              refine ⟨?_, rfl⟩
              rw [show decide ((xs.length : Int) = (x0.length : Int)) = decide (lenD (.tup xs) = lenD (.tup x0)) from decide_eq_decide.mpr Int.ofNat_inj]
            · simp only [wp, wx, all_map, kFn_v (lo _)]
              refine ⟨?_, rfl⟩
              have hie : rows.isEmpty = false := by subst hrows; rfl
              simp only [machB, ha, hhd, hie, Bool.not_false, Bool.true_and]; rw [decide_eq_true (show 0 < lenD (.tup x0) from hp), Bool.true_and]
          · have hp' : ¬ (x0.length : Int) > 0 := by omega
            simp only [hp', decide_false, wp, wx, kFn_v (lo _)]
            exact ⟨by simp only [machB, hhd]; rw [decide_eq_false (show ¬ 0 < lenD (.tup x0) from hp), Bool.and_false, Bool.false_and], rfl⟩
        · have ha : rows.all (rowB rows.length) = false := by simpa using ha
          simp only [ha, wp, wx, kFn_v (lo _)]
          exact ⟨by simp only [machB, ha, Bool.and_false, Bool.false_and], rfl⟩
  | _ => simp only [isTupB, wp, wx, kFn_v (lo _)]; exact ⟨rfl, rfl⟩
theorem rowB_nats {n : Nat} {w : List Nat} (h : ∀ r ∈ w, r < n) : rowB (n : Int) (tN w) = true := by
  simp only [tN, rowB, List.all_map, List.all_eq_true]
  intro r hr
  have := h r hr
  simp [inB]; omega
theorem machB_mach {m : List (List Nat)} {l : Nat} (hm : Mach m l) (h0 : 0 < m.length) (hl : 0 < l) : machB (tM m) = true := by
  cases m with
  | nil => simp at h0
  | cons r0 rs =>
    have e0 : r0.length = l := hm.len r0 (by simp)
    simp only [tM, machB, Bool.and_eq_true, List.all_eq_true, decide_eq_true_eq]
    refine ⟨⟨⟨rfl, fun d hd => ?_⟩, ?_⟩, fun d hd => ?_⟩
    · obtain ⟨row, hr, rfl⟩ := List.mem_map.mp hd
      rw [List.length_map]
      exact rowB_nats (hm.lt row hr)
    · simp [tN, lenD]; omega
    · obtain ⟨row, hr, rfl⟩ := List.mem_map.mp hd
      simp [tN, lenD, e0, hm.len row hr]
noncomputable def m_all_rooms : Fn := fnD 1 1
    (sRet (eRg1 mkT (eUn lenF (eVar 0))))
noncomputable def m_letters_of : Fn := fnD 1 1
    (sRet (eUn lenF (eBin ixF (eVar 0) (eC (.int 0)))))
noncomputable def m_pair_of : Fn := fnD 2 2
    (sRet (eTup (aCons (eBin min2F (eVar 0) (eVar 1)) (aCons (eBin max2F (eVar 0) (eVar 1)) aNil))))
noncomputable def pairs_of_E1 (ρ : Env) (m : Mem) : Option (Out × Mem) := (eTup (aCons (eVar 3) (aCons (eVar 4) aNil))) ρ m
theorem w_pairs_of_E1 {ρ : Env} {M : Mem} {Q : PO2} : WE pairs_of_E1 ρ M Q ↔ WE (eTup (aCons (eVar 3) (aCons (eVar 4) aNil))) ρ M Q := Iff.rfl
noncomputable def pairs_of_F1 (ρ : Env) (m : Mem) : Option R := (sDo (eMt1 "list" extF (eVar 1) (eComp (iE (eSl (eVar 0) (oSome (eBin addF (eVar 2) (eC (.int 1)))) oNone)) [4] (.nm 4) bYes pairs_of_E1))) ρ m
theorem w_pairs_of_F1 {ρ : Env} {M : Mem} {Q : R → Prop} : WS pairs_of_F1 ρ M Q ↔ WS (sDo (eMt1 "list" extF (eVar 1) (eComp (iE (eSl (eVar 0) (oSome (eBin addF (eVar 2) (eC (.int 1)))) oNone)) [4] (.nm 4) bYes pairs_of_E1))) ρ M Q := Iff.rfl
noncomputable def m_pairs_of : Fn := fnD 1 5
    (sSeq (sSet 1 (eLst aNil))
    (sSeq (sFor (iEnumE (eVar 0)) (gT (.tp [2, 3])) pairs_of_F1)
    (sRet (eVar 1))))
noncomputable def m_pair_behind : Fn := fnD 3 5
    (sSeq (sSet 3 (eBin ixF (eBin ixF (eVar 0) (eBin ixF (eVar 1) (eC (.int 0)))) (eVar 2)))
    (sSeq (sSet 4 (eBin ixF (eBin ixF (eVar 0) (eBin ixF (eVar 1) (eC (.int 1)))) (eVar 2)))
    (sSeq (sIf (bOf (eBin eqF (eVar 3) (eVar 4))) (sRet (eC .non)) sNil)
    (sRet (eCall m_pair_of (aCons (eVar 3) (aCons (eVar 4) aNil)))))))
noncomputable def joined_at_once_E1 (ρ : Env) (m : Mem) : Option (Out × Mem) := (eCall m_pair_behind (aCons (eVar 0) (aCons (eVar 1) (aCons (eVar 2) aNil)))) ρ m
theorem w_joined_at_once_E1 {ρ : Env} {M : Mem} {Q : PO2} : WE joined_at_once_E1 ρ M Q ↔ WE (eCall m_pair_behind (aCons (eVar 0) (aCons (eVar 1) (aCons (eVar 2) aNil)))) ρ M Q := Iff.rfl
noncomputable def m_joined_at_once : Fn := fnD 2 3
    (sRet (eBin (inF false) (eC .non) (eComp (iRg1 (eCall m_letters_of (aCons (eVar 0) aNil))) [2] (.nm 2) bYes joined_at_once_E1)))
noncomputable def pairs_ahead_F1 (ρ : Env) (m : Mem) : Option R := (sDo (eMt1 "list" appF (eDm2 setdF (eVar 2) (eCall m_pair_behind (aCons (eVar 0) (aCons (eVar 3) (aCons (eVar 4) aNil)))) (eLst aNil)) (eVar 3))) ρ m
theorem w_pairs_ahead_F1 {ρ : Env} {M : Mem} {Q : R → Prop} : WS pairs_ahead_F1 ρ M Q ↔ WS (sDo (eMt1 "list" appF (eDm2 setdF (eVar 2) (eCall m_pair_behind (aCons (eVar 0) (aCons (eVar 3) (aCons (eVar 4) aNil)))) (eLst aNil)) (eVar 3))) ρ M Q := Iff.rfl
noncomputable def pairs_ahead_F2 (ρ : Env) (m : Mem) : Option R := (sFor (iRg1 (eCall m_letters_of (aCons (eVar 0) aNil))) (gT (.nm 4)) pairs_ahead_F1) ρ m
theorem w_pairs_ahead_F2 {ρ : Env} {M : Mem} {Q : R → Prop} : WS pairs_ahead_F2 ρ M Q ↔ WS (sFor (iRg1 (eCall m_letters_of (aCons (eVar 0) aNil))) (gT (.nm 4)) pairs_ahead_F1) ρ M Q := Iff.rfl
noncomputable def m_pairs_ahead : Fn := fnD 2 5
    (sSeq (sSet 2 eDnew)
    (sSeq (sFor (iE (eVar 1)) (gT (.nm 3)) pairs_ahead_F2)
    (sRet (eVar 2))))
noncomputable def lengths_F1 (ρ : Env) (m : Mem) : Option R := (sIf (bOf (eBin (dinF true) (eVar 5) (eVar 4))) (sSeq (sPut (eBin addF (eBin dixF (eVar 4) (eBin ixF (eVar 3) (eVar 6))) (eC (.int 1))) (gDx (eVar 4) (eVar 5)))
    (sDo (eMt1 "list" appF (eVar 3) (eVar 5)))) sNil) ρ m
theorem w_lengths_F1 {ρ : Env} {M : Mem} {Q : R → Prop} : WS lengths_F1 ρ M Q ↔ WS (sIf (bOf (eBin (dinF true) (eVar 5) (eVar 4))) (sSeq (sPut (eBin addF (eBin dixF (eVar 4) (eBin ixF (eVar 3) (eVar 6))) (eC (.int 1))) (gDx (eVar 4) (eVar 5)))
    (sDo (eMt1 "list" appF (eVar 3) (eVar 5)))) sNil) ρ M Q := Iff.rfl
noncomputable def lengths_T1 (ρ : Env) (m : Mem) : Option (Bool × Mem) := (bOf (eBin ltF (eVar 6) (eUn lenF (eVar 3)))) ρ m
theorem w_lengths_T1 {ρ : Env} {M : Mem} {Q : Bool → Mem → Prop} : WB lengths_T1 ρ M Q ↔ WB (bOf (eBin ltF (eVar 6) (eUn lenF (eVar 3)))) ρ M Q := Iff.rfl
noncomputable def lengths_W1 (ρ : Env) (m : Mem) : Option R := (sSeq (sFor (iE (eDm2 get2F (eVar 2) (eBin ixF (eVar 3) (eVar 6)) (eLst aNil))) (gT (.nm 5)) lengths_F1)
    (sAug 6 augAdd (eC (.int 1)))) ρ m
theorem w_lengths_W1 {ρ : Env} {M : Mem} {Q : R → Prop} : WS lengths_W1 ρ M Q ↔ WS (sSeq (sFor (iE (eDm2 get2F (eVar 2) (eBin ixF (eVar 3) (eVar 6)) (eLst aNil))) (gT (.nm 5)) lengths_F1)
    (sAug 6 augAdd (eC (.int 1)))) ρ M Q := Iff.rfl
noncomputable def lengths_F2 (ρ : Env) (m : Mem) : Option R := (sPut (eC (.int 1)) (gDx (eVar 4) (eVar 5))) ρ m
theorem w_lengths_F2 {ρ : Env} {M : Mem} {Q : R → Prop} : WS lengths_F2 ρ M Q ↔ WS (sPut (eC (.int 1)) (gDx (eVar 4) (eVar 5))) ρ M Q := Iff.rfl
noncomputable def lengths_C1 (ρ : Env) (m : Mem) : Option (Bool × Mem) := (bOf (eCall m_joined_at_once (aCons (eVar 0) (aCons (eVar 5) aNil)))) ρ m
theorem w_lengths_C1 {ρ : Env} {M : Mem} {Q : Bool → Mem → Prop} : WB lengths_C1 ρ M Q ↔ WB (bOf (eCall m_joined_at_once (aCons (eVar 0) (aCons (eVar 5) aNil)))) ρ M Q := Iff.rfl
noncomputable def lengths_E1 (ρ : Env) (m : Mem) : Option (Out × Mem) := (eVar 5) ρ m
theorem w_lengths_E1 {ρ : Env} {M : Mem} {Q : PO2} : WE lengths_E1 ρ M Q ↔ WE (eVar 5) ρ M Q := Iff.rfl
noncomputable def m_lengths : Fn := fnD 1 7
    (sSeq (sSet 1 (eCall m_pairs_of (aCons (eCall m_all_rooms (aCons (eVar 0) aNil)) aNil)))
    (sSeq (sSet 2 (eCall m_pairs_ahead (aCons (eVar 0) (aCons (eVar 1) aNil))))
    (sSeq (sSet 3 (eComp (iE (eVar 1)) [5] (.nm 5) lengths_C1 lengths_E1))
    (sSeq (sSet 4 eDnew)
    (sSeq (sFor (iE (eVar 3)) (gT (.nm 5)) lengths_F2)
    (sSeq (sSet 6 (eC (.int 0)))
    (sSeq (sWhile lengths_T1 lengths_W1)
    (sRet (eVar 4)))))))))
/-! ### pairs of rooms: what the program's defs compute -/
def pairD (p : P2) : D := tN [p.1, p.2]
def optD : Option P2 → D
  | none => .non
  | some p => pairD p
theorem pairD_inj {p q : P2} (h : pairD p = pairD q) : p = q := by
  obtain ⟨a, b⟩ := p
  obtain ⟨c, d⟩ := q
  simp [pairD, tN] at h
  have h1 : a = c := by omega
  have h2 : b = d := by omega
  rw [h1, h2]
theorem optD_inj {p q : Option P2} (h : optD p = optD q) : p = q := by
  cases p with
  | none => cases q with
    | none => rfl
    | some q => simp [optD, pairD, tN] at h
  | some p => cases q with
    | none => simp [optD, pairD, tN] at h
    | some q => rw [pairD_inj h]
@[simp] theorem lo_pairD (n : Nat) (p : P2) : D.lo n (pairD p) = True := by simp [pairD]
@[simp] theorem key_pair (p : P2) : keyOf (.v (pairD p)) = some (pairD p) := by simp [keyOf, pairD, tN, nk, nks, NestedKey.depth, NestedKey.depthAll]
@[simp] theorem key_opt (p : Option P2) : keyOf (.v (optD p)) = some (optD p) := by
  cases p with
  | none => simp [optD, keyOf, nk, NestedKey.depth]
  | some p => exact key_pair p
theorem ix_p0 (p : P2) (M : Mem) : ixF (.v (pairD p)) (.v (.int 0)) M = some (.v (.int (p.1 : Nat)), M) := ix_nat (w := [p.1, p.2]) (r := 0) (by simp) M
theorem ix_p1 (p : P2) (M : Mem) : ixF (.v (pairD p)) (.v (.int 1)) M = some (.v (.int (p.2 : Nat)), M) := ix_nat (w := [p.1, p.2]) (r := 1) (by simp) M
theorem rooms_eq (m : List (List Nat)) (hb : m.length ≤ 10000) (M : Mem) : m_all_rooms [tM m] M = some (.v (tN (List.range m.length)), M) := by
  refine wo_eq ?_
  unfold m_all_rooms
  simp only [wp, wx, wf, Nat.reduceSub, len_tM]
  refine ⟨rg_nat (by omega), ?_⟩
  simp only [Int.toNat_natCast, mkT_rg]
  rw [kFn_v (by simp)]
  exact ⟨rfl, rfl⟩
theorem letters_eq {m : List (List Nat)} {l : Nat} (hm : Mach m l) (h0 : 0 < m.length) (M : Mem) : m_letters_of [tM m] M = some (.v (.int (l : Int)), M) := by
  refine wo_eq ?_
  unfold m_letters_of
  have e : ixF (.v (tM m)) (.v (.int 0)) M = some (.v (tN m[0]), M) := ix_row (r := 0) h0 M
  simp only [wp, wx, wf, Nat.reduceSub, e, len_tN, hm.row h0]
  rw [kFn_v (by simp)]
  exact ⟨rfl, rfl⟩
theorem min2_nat (a b : Nat) (M : Mem) : min2F (.v (.int (a : Int))) (.v (.int (b : Int))) M = some (.v (.int ((min a b : Nat) : Int)), M) := by
  have : (if (b : Int) < (a : Int) then (b : Int) else (a : Int)) = ((min a b : Nat) : Int) := by split <;> omega
  simp only [min2F, this]
theorem max2_nat (a b : Nat) (M : Mem) : max2F (.v (.int (a : Int))) (.v (.int (b : Int))) M = some (.v (.int ((max a b : Nat) : Int)), M) := by
  have : (if (b : Int) > (a : Int) then (b : Int) else (a : Int)) = ((max a b : Nat) : Int) := by split <;> omega
  simp only [max2F, this]
theorem tup_pair (a b : Nat) : D.tup [.int (a : Int), .int (b : Int)] = pairD (a, b) := rfl
theorem pair_of_eq (a b : Nat) (M : Mem) : m_pair_of [.int (a : Int), .int (b : Int)] M = some (.v (pairD (ordP a b)), M) := by
  refine wo_eq ?_
  unfold m_pair_of
  simp only [wp, wx, wf, Nat.reduceSub, min2_nat, max2_nat, tup_pair]
  rw [kFn_v (by simp)]
  exact ⟨rfl, rfl⟩
theorem behind_eq {m : List (List Nat)} {l : Nat} (hm : Mach m l) {p : P2} (hp : PairOk m.length p) {a : Nat} (ha : a < l) (M : Mem) : m_pair_behind [tM m, pairD p, .int (a : Int)] M = some (.v (optD (behN m p a)), M) := by
  have h1 : p.1 < m.length := Nat.lt_trans hp.1 hp.2
  refine wo_eq ?_
  unfold m_pair_behind
  simp only [wp, wx, wf, Nat.reduceSub, ix_p0, ix_p1, ix_row h1, ix_row hp.2, ix_stp hm h1 ha, ix_stp hm hp.2 ha, eq_int]
  by_cases h : stp m p.1 a = stp m p.2 a
  · have h' : (stp m p.1 a : Int) = stp m p.2 a := by rw [h]
    simp only [h', decide_true, wp, wx]
    rw [kFn_v (by simp)]
    exact ⟨by simp [behN, h, optD], rfl⟩
  · have h' : ¬ (stp m p.1 a : Int) = stp m p.2 a := by omega
    simp only [h', decide_false, wp, wx, pair_of_eq]
    rw [kFn_v (by simp)]
    exact ⟨by simp [behN, h, optD], rfl⟩
theorem pairs_of_eq {S : List Nat} (hb : S.length ≤ 200) (M : Mem) : m_pairs_of [tN S] M = some (.o (.lst ((prs S).map pairD)), M) := by
  refine wo_eqO ?_
  unfold m_pairs_of
  have e1 : enumOf (.v (tN S)) (M ++ [.lst []]) = some ⟨enumD 0 (nats S), []⟩ := by simp [enumOf, tN]
  simp only [wp, wx, wf, Nat.reduceSub, e1]
  have pre : ∀ i, i ≤ S.length → prs S = ((List.range i).flatMap fun k => (S.drop (k + 1)).map fun y => (S.getD k 0, y)) ++ prs (S.drop i) := by
    intro i
    induction i with
    | zero => intro _; simp
    | succ i ih =>
      intro hi
      have hi' : i < S.length := by omega
      rw [ih (by omega), List.drop_eq_getElem_cons hi', prs, List.range_succ, List.flatMap_append]
      simp [List.getD, hi']
  have len : ∀ i, i ≤ S.length → ((List.range i).flatMap fun k => (S.drop (k + 1)).map fun y => (S.getD k 0, y)).length ≤ 40000 := by
    intro i hi
    have h1 := pre i hi
    have h2 := prs_len S
    rw [h1, List.length_append] at h2
    have : S.length * S.length ≤ 200 * 200 := Nat.mul_le_mul hb hb
    omega
  refine wl_inv (fun i ρ M' => ∃ x y, ρ = [some (tN S), some (.ref M.length), x, y, none] ∧ M' = M ++ [.lst (((List.range i).flatMap fun k => (S.drop (k + 1)).map fun y => (S.getD k 0, y)).map pairD)]) ⟨none, none, rfl, by simp⟩ (fun _ _ _ _ _ => chk_nil) (fun i x ρ M' hx j => ?_) (fun ρ M' j => ?_)
  · obtain ⟨u, v, rfl, rfl⟩ := j
    obtain ⟨y, hy, rfl⟩ := enumD_get hx
    rw [List.getElem?_map] at hy
    obtain ⟨r, hr, rfl⟩ := Option.map_eq_some_iff.mp hy
    obtain ⟨hi, rfl⟩ := List.getElem?_eq_some_iff.mp hr
    have es : ∀ M : Mem, slF (.v (tN S)) (some (((0 + i : Nat) : Int) + 1)) none M = some (.v (tN (S.drop (i + 1))), M) := fun M => by
      rw [tN, sl_tup, cut_from (by omega), tN, show (((0 + i : Nat) : Int) + 1).toNat = i + 1 by omega]; simp
    generalize hacc : ((List.range i).flatMap fun k => (S.drop (k + 1)).map fun y => (S.getD k 0, y)) = acc
    have hal : acc.length ≤ 40000 := by rw [← hacc]; exact len i (by omega)
    simp only [wp, wx, w_pairs_of_F1, isT_ref (get_end rfl), add_int, es, src_tN]
    refine wc_map (fun (r : Nat) => D.int (r : Int)) (fun (r : Nat) => pairD (S[i], r)) (S.drop (i + 1)) (fun r hr => ?_) ?_
    · simp only [wp, wx, w_pairs_of_E1, tup_pair]
      exact ⟨rfl, rfl⟩
    · have hz : fits ((acc.map pairD).length + ((S.drop (i + 1)).map fun (r : Nat) => pairD (S[i], r)).length) := fits_of (by simp; omega)
      have ee : extF (.v (.ref M.length)) (.o (.lst ((S.drop (i + 1)).map fun (r : Nat) => pairD (S[i], r)))) (M ++ [.lst (acc.map pairD)]) = some (.v .non, M ++ [.lst (acc.map pairD ++ (S.drop (i + 1)).map fun (r : Nat) => pairD (S[i], r))]) := by
        simp only [extF, get_end rfl, lstOf, Option.bind_some, if_pos hz, set_end rfl]
      simp only [wp, wx, ee]
      refine ⟨_, _, rfl, ?_⟩
      rw [List.range_succ, List.flatMap_append, hacc]
      simp [List.getD, hi, Function.comp_def]
  · obtain ⟨u, v, rfl, rfl⟩ := j
    rw [enumD_len, List.length_map] at *
    have := pre S.length (Nat.le_refl _)
    rw [List.drop_length, prs, List.append_nil] at this
    rw [← this]
    simp only [wp, wx]
    rw [kFn_ra (b := .lst ((prs S).map pairD)) (Nat.le_refl _) (get_end rfl) (by show loL _ _; rw [loL_iff]; intro d hd; obtain ⟨q, _, rfl⟩ := List.mem_map.mp hd; simp)]
    exact ⟨rfl, rfl⟩
theorem inNone {m : List (List Nat)} {l : Nat} {p : P2} (M : Mem) : inF false (.v .non) (.o (.lst ((List.range l).map fun a => optD (behN m p a)))) M = some (.v (.bl (joinB m l p)), M) := by
  have h1 : okL 63 ((List.range l).map fun a => optD (behN m p a)) = true := by
    generalize List.range l = L
    induction L with
    | nil => rfl
    | cons a L ih =>
      rw [List.map_cons, okL, ih, Bool.and_true]
      cases behN m p a with
      | none => rfl
      | some q => simp [optD, pairD, tN, okD, okL]
  have h2 : (((List.range l).map fun a => optD (behN m p a)).any fun d => d.eqb .non) = joinB m l p := by
    unfold joinB
    rw [List.any_map]
    congr 1
    funext a
    simp only [Function.comp]
    cases behN m p a with
    | none => simp [optD, D.eqb]
    | some q => simp [optD, pairD, tN, D.eqb]
  simp only [inF, form, seqOf, Option.bind_some]
  by_cases hf : flatD .non = true ∧ ((List.range l).map fun a => optD (behN m p a)).all flatD = true
  · rw [if_pos hf]; simp [h2]
  · rw [if_neg hf, if_pos ⟨rfl, h1⟩]; simp [h2]
theorem joined_eq {m : List (List Nat)} {l : Nat} (hm : Mach m l) (hl : l ≤ 10000) {p : P2} (hp : PairOk m.length p) (M : Mem) : m_joined_at_once [tM m, pairD p] M = some (.v (.bl (joinB m l p)), M) := by
  have h0 : 0 < m.length := by have := hp.2; omega
  refine wo_eq ?_
  unfold m_joined_at_once
  simp only [wp, wx, wf, Nat.reduceSub, letters_eq hm h0]
  refine ⟨rg_nat (by omega), ?_⟩
  rw [Int.toNat_natCast, upto_nats]
  refine wc_map (fun (r : Nat) => D.int (r : Int)) (fun a => optD (behN m p a)) (List.range l) (fun a ha => ?_) ?_
  · simp only [wp, wx, w_joined_at_once_E1, behind_eq hm hp (List.mem_range.mp ha)]
    exact ⟨rfl, rfl⟩
  · simp only [wp, wx, inNone]
    rw [kFn_v (by simp)]
    exact ⟨rfl, rfl⟩
open Classical in
/-- the dict of lists of pairs that letters lead there -/
noncomputable def aheadF (m : List (List Nat)) (l : Nat) (ps : List P2) (key : D) : List D := ps.flatMap fun p => ((List.range l).filter fun a => decide (optD (behN m p a) = key)).map fun _ => pairD p
open Classical in
theorem aheadF_opt (m : List (List Nat)) (l : Nat) (o : Option P2) : aheadF m l (allP m) (optD o) = (nbr m l o).map pairD := by
  unfold aheadF nbr
  rw [List.map_flatMap]
  congr 1
  funext p
  rw [List.map_map]
  have : (fun a => decide (optD (behN m p a) = optD o)) = fun a => decide (behN m p a = o) := by
    funext a
    rw [Bool.eq_iff_iff, decide_eq_true_eq, decide_eq_true_eq]
    exact ⟨optD_inj, fun h => by rw [h]⟩
  rw [this]
  rfl
open Classical in
theorem aheadF_len (m : List (List Nat)) (l : Nat) (ps : List P2) (key : D) : (aheadF m l ps key).length ≤ ps.length * l := by
  unfold aheadF
  induction ps with
  | nil => simp
  | cons p ps ih =>
    rw [List.flatMap_cons, List.length_append, List.length_map, List.length_cons, Nat.add_mul]
    have := List.length_filter_le (fun a => decide (optD (behN m p a) = key)) (List.range l)
    rw [List.length_range] at this
    omega
open Classical in
theorem ahead_w {m : List (List Nat)} {l : Nat} (hm : Mach m l) (hb : m.length ≤ 26) (hl : l ≤ 6) {n0 : Nat} {M : Mem} (hn0 : M[n0]? = some (.lst ((allP m).map pairD))) {K : PO2}
    (k : ∀ (a : Nat) (M' : Mem), Low M.length M M' → Grp M.length M' a (aheadF m l (allP m)) 100000 → K (.v (.ref a)) M') (k0 : (∀ key, aheadF m l (allP m) key = []) → K (.o (.dcr [])) M) : WO (m_pairs_ahead [tM m, .ref n0] M) K := by
  have hN : (allP m).length ≤ 676 := by
    have := prs_len (List.range m.length)
    rw [List.length_range] at this
    have h2 : m.length * m.length ≤ 26 * 26 := Nat.mul_le_mul hb hb
    unfold allP; omega
  have hn0' : n0 < M.length := (List.getElem?_eq_some_iff.mp hn0).1
  unfold m_pairs_ahead
  simp only [wp, wx, wf, Nat.reduceSub]
  have hn1 : (M ++ [Ob.dcr []])[n0]? = some (.lst ((allP m).map pairD)) := by rw [List.getElem?_append_left hn0']; exact hn0
  simp only [src_ref hn1, wp, wx]
  have lim : ∀ (i : Nat) (key : D), (aheadF m l ((allP m).take i) key).length ≤ 5000 := fun i key => by
    have h1 := aheadF_len m l ((allP m).take i) key
    have h2 : ((allP m).take i).length * l ≤ 676 * 6 := Nat.mul_le_mul (by rw [List.length_take]; omega) hl
    omega
  refine wl_typl pairD (allP m) (fun i ρ M' => ∃ x y, ρ = [some (tM m), some (.ref n0), some (.ref M.length), x, y] ∧ Low M.length M M' ∧ Grp M.length M' M.length (aheadF m l ((allP m).take i)) (i * 6)) ⟨none, none, rfl, low_app (Nat.le_refl _), Grp.new (by simp)⟩
    (fun i ρ M' j => ?_) (fun i hi ρ M' j => ?_) (fun ρ M' j => ?_)
  · obtain ⟨x, y, _, hlow, _⟩ := j; rw [hlow.2 n0 hn0']; exact hn0
  · obtain ⟨x, y, rfl, hlow, hg⟩ := j
    have hp : PairOk m.length (allP m)[i] := allP_mem.mp (List.getElem_mem hi)
    have h0 : 0 < m.length := by have := hp.2; omega
    generalize hP : (allP m)[i] = p at hp ⊢
    simp only [wp, wx, w_pairs_ahead_F2, letters_eq hm h0]
    refine ⟨rg_nat (by omega), ?_⟩
    rw [Int.toNat_natCast]
    refine wl_rg0 (fun j ρ M2 => ∃ y, ρ = [some (tM m), some (.ref n0), some (.ref M.length), some (pairD p), y] ∧ Low M.length M M2 ∧ Grp M.length M2 M.length (fun key => aheadF m l ((allP m).take i) key ++ ((List.range j).filter fun a => decide (optD (behN m p a) = key)).map fun _ => pairD p) (i * 6 + j)) ⟨y, rfl, hlow, by simpa using hg⟩ (fun j ρ M2 hj jj => ?_) (fun ρ M2 jj => ?_)
    · obtain ⟨y, rfl, hlow2, hg2⟩ := jj
      obtain ⟨r, M3, M4, e1, e2, e3, hlow4, hg4⟩ := hg2.step (key := optD (behN m p j)) (x := pairD p) (key_opt _) (by omega) (by
        rw [List.length_append, List.length_map]
        have := lim i (optD (behN m p j))
        have h2 := List.length_filter_le (fun a => decide (optD (behN m p a) = optD (behN m p j))) (List.range j)
        rw [List.length_range] at h2
        omega) hlow2.1
      have hd : isDct (.v (.ref M.length)) M2 = true := by
        obtain ⟨kvs, e, _⟩ := hg2
        simp [isDct, dctOf, e]
      simp only [wp, wx, w_pairs_ahead_F1, hd, behind_eq hm hp hj, e1, e2, e3]
      refine ⟨_, rfl, hlow2.trans (hlow4.low (Nat.le_refl _)), ?_⟩
      have e : (fun k => if k = optD (behN m p j) then (aheadF m l ((allP m).take i) k ++ ((List.range j).filter fun a => decide (optD (behN m p a) = k)).map fun _ => pairD p) ++ [pairD p] else aheadF m l ((allP m).take i) k ++ ((List.range j).filter fun a => decide (optD (behN m p a) = k)).map fun _ => pairD p) =
          fun key => aheadF m l ((allP m).take i) key ++ ((List.range (j + 1)).filter fun a => decide (optD (behN m p a) = key)).map fun _ => pairD p := by
        funext key
        rw [List.range_succ, List.filter_append, List.map_append]
        by_cases hk : key = optD (behN m p j)
        · rw [if_pos hk, List.append_assoc]
          congr 2
          simp [hk]
        · rw [if_neg hk]
          have : decide (optD (behN m p j) = key) = false := by simp; exact fun z => hk z.symm
          simp [this]
      rw [e] at hg4
      exact hg4
    · obtain ⟨y, rfl, hlow2, hg2⟩ := jj
      refine ⟨_, _, rfl, hlow2, ?_⟩
      have e : (fun key => aheadF m l ((allP m).take i) key ++ ((List.range l).filter fun a => decide (optD (behN m p a) = key)).map fun _ => pairD p) = aheadF m l ((allP m).take (i + 1)) := by
        funext key
        unfold aheadF
        rw [List.take_add_one, List.getElem?_eq_getElem hi, Option.toList_some, List.flatMap_append, hP]
        simp
      rw [e] at hg2
      obtain ⟨kvs, h2, h3, h4⟩ := hg2
      exact ⟨kvs, h2, by omega, h4⟩
  · obtain ⟨x, y, rfl, hlow, hg⟩ := j
    rw [List.take_length] at hg
    have hg' : Grp M.length M' M.length (aheadF m l (allP m)) 100000 := by
      obtain ⟨kvs, h2, h3, h4⟩ := hg
      exact ⟨kvs, h2, by omega, h4⟩
    simp only [wp, wx]
    rw [kFn_rt]
    obtain ⟨e, rfl⟩ := hlow.app
    obtain ⟨kvs, h2, h3, h4, h5, h6⟩ := hg
    unfold shut
    rw [if_pos (okM_app M e)]
    have hnl : ¬ D.lo M.length (.ref M.length) := by simp
    simp only [if_neg hnl, h2]
    by_cases hlo : (Ob.dcr kvs).lo M.length
    · simp only [if_pos hlo, List.take_left]
      cases kvs with
      | nil => exact k0 fun key => h5 key (dlook_nil key)
      | cons q kvs =>
        exfalso
        obtain ⟨j, ej, hj, _⟩ := h4 q.1 q.2 (by rw [dlook_cons, if_pos rfl])
        have hlo' : loK M.length (q :: kvs) := hlo
        rw [loK, ej] at hlo'
        have := hlo'.2.1
        simp at this
        omega
    · simp only [if_neg hlo]
      exact k _ _ hlow hg'
/-! lengths -/
def frD (fr : List (P2 × Nat)) : List (D × D) := fr.map fun c => (pairD c.1, .int (c.2 : Int))
theorem look_fr (fr : List (P2 × Nat)) (p : P2) : dlook (frD fr) (pairD p) = (lk fr p).map fun (k : Nat) => D.int (k : Int) := by
  induction fr with
  | nil => rfl
  | cons c fr ih =>
    rw [frD, List.map_cons, dlook_cons]
    unfold lk
    by_cases h : c.1 = p
    · rw [if_pos (by rw [h]), List.find?_cons_of_pos (by simp [h])]; rfl
    · rw [if_neg (fun z => h (pairD_inj z)), List.find?_cons_of_neg (by simp [h])]; exact ih
theorem look_frn (fr : List (P2 × Nat)) : dlook (frD fr) .non = none := by
  induction fr with
  | nil => rfl
  | cons c fr ih => rw [frD, List.map_cons, dlook_cons, if_neg (by simp [pairD, tN])]; exact ih
theorem lk_none {fr : List (P2 × Nat)} {p : P2} : lk fr p = none ↔ p ∉ keysB fr := by
  unfold lk keysB
  rw [Option.map_eq_none_iff, List.find?_eq_none]
  simp only [decide_eq_true_eq, List.mem_map]
  constructor
  · rintro h ⟨c, hc, e⟩; exact h c hc e
  · intro h c hc e; exact h ⟨c, hc, e⟩
theorem nodup_len {α : Type} [DecidableEq α] : ∀ {l U : List α}, l.Nodup → (∀ x ∈ l, x ∈ U) → l.length ≤ U.length
  | [], _, _, _ => by simp
  | x :: l, U, h, hs => by
    obtain ⟨h1, h2⟩ := List.nodup_cons.mp h
    have hx : x ∈ U := hs x (by simp)
    have := nodup_len (l := l) (U := U.erase x) h2 fun y hy => (List.mem_erase_of_ne (fun z => h1 (by subst z; exact hy))).mpr (hs y (by simp [hy]))
    rw [List.length_erase_of_mem hx] at this
    have : 0 < U.length := List.length_pos_of_mem hx
    simp only [List.length_cons]
    omega
/-- keys that are pairs, none twice -/
structure Kys (m : List (List Nat)) (fr : List (P2 × Nat)) : Prop where
  nd : (keysB fr).Nodup
  ok : ∀ c ∈ fr, PairOk m.length c.1
theorem Kys.len {m : List (List Nat)} {fr : List (P2 × Nat)} (h : Kys m fr) : fr.length ≤ (allP m).length := by
  have := nodup_len (U := allP m) h.nd fun p hp => by
    obtain ⟨c, hc, rfl⟩ := List.mem_map.mp hp
    exact allP_mem.mpr (h.ok c hc)
  simpa [keysB] using this
theorem Kys.put {m : List (List Nat)} {fr : List (P2 × Nat)} (h : Kys m fr) {c : P2 × Nat} (hc : PairOk m.length c.1) : Kys m (put1 fr c) := by
  by_cases hk : c.1 ∈ keysB fr
  · rw [put1_in hk]; exact h
  · rw [put1_new hk]
    refine ⟨?_, fun x hx => ?_⟩
    · show (List.map _ _).Nodup
      rw [List.map_append, List.nodup_append]
      exact ⟨h.nd, by simp, fun a ha b hb => by simp at hb; subst hb; intro z; subst z; exact hk ha⟩
    · rcases List.mem_append.mp hx with hx | hx
      · exact h.ok x hx
      · simp at hx; subst hx; exact hc
theorem allP_len {m : List (List Nat)} (hb : m.length ≤ 26) : (allP m).length ≤ 676 := by
  have := prs_len (List.range m.length)
  rw [List.length_range] at this
  have h2 : m.length * m.length ≤ 26 * 26 := Nat.mul_le_mul hb hb
  unfold allP; omega
theorem lk_at {fr : List (P2 × Nat)} (h : (keysB fr).Nodup) {c : P2 × Nat} (hc : c ∈ fr) : lk fr c.1 = some c.2 := by
  induction fr with
  | nil => cases hc
  | cons x fr ih =>
    have h' : (x.1 :: keysB fr).Nodup := h
    obtain ⟨h1, h2⟩ := List.nodup_cons.mp h'
    unfold lk
    rcases List.mem_cons.mp hc with rfl | hc
    · rw [List.find?_cons_of_pos (by simp)]; rfl
    · have : x.1 ≠ c.1 := fun z => h1 (by rw [z]; exact List.mem_map_of_mem hc)
      rw [List.find?_cons_of_neg (by simp [this])]
      exact ih h2 hc
/-- a turn of the inner walk: put1 -/
theorem frD_put {m : List (List Nat)} {fr : List (P2 × Nat)} {c : P2 × Nat} (h : c.1 ∉ keysB fr) : dsto (frD fr) (pairD c.1) (.int (c.2 : Int)) = frD (put1 fr c) := by
  rw [dsto_new (by rw [look_fr, lk_none.mpr h]; rfl), put1_new h]
  simp [frD]
theorem len_loop {m : List (List Nat)} {l : Nat} (hm : Mach m l) (hb : m.length ≤ 26) (hl : l ≤ 6) {M : Mem} {a lo : Nat} (hg : Grp lo M a (aheadF m l (allP m)) 100000) {P x : Option D} {Q : R → Prop}
    (k : ∀ fr x y e, Lens m l fr → Q (.nx [some (tM m), P, some (.ref a), some (.ref M.length), some (.ref (M.length + 1)), x, y] (M ++ [e, .dcr (frD fr)]))) :
    WH lengths_T1 lengths_W1 fuel [some (tM m), P, some (.ref a), some (.ref M.length), some (.ref (M.length + 1)), x, some (.int 0)] (M ++ [.lst ((keysB (lsd m l)).map pairD), .dcr (frD (lsd m l))]) Q := by
  have hN := allP_len hb
  have haM : a < M.length := by obtain ⟨kvs, e, _⟩ := hg; exact (List.getElem?_eq_some_iff.mp e).1
  have kys : ∀ {at_ : Nat} {fr : List (P2 × Nat)}, Bfs (lnx m l) (· ≤ ·) (lsd m l) at_ fr → Kys m fr := fun B => ⟨B.nd, fun c hc => (lens_der c (B.dr c hc)).1⟩
  refine wfu (n0 := 700) (fun n ρ M' => ∃ at_ fr x, n = 700 - at_ ∧ Bfs (lnx m l) (· ≤ ·) (lsd m l) at_ fr ∧ ρ = [some (tM m), P, some (.ref a), some (.ref M.length), some (.ref (M.length + 1)), x, some (.int (at_ : Int))] ∧ M' = M ++ [.lst ((keysB fr).map pairD), .dcr (frD fr)]) (by omega) ⟨0, _, x, rfl, Bfs.init _ _ _ (lrule m l), rfl, rfl⟩ (fun n ρ M' j => ?_)
  obtain ⟨at_, fr, x, rfl, B, rfl, rfl⟩ := j
  have K0 := kys B
  have hlen := K0.len
  have g1 : ∀ (u v : Ob), (M ++ [u, v])[M.length]? = some u := fun u v => by rw [gm0]; rfl
  have g2 : ∀ (u v : Ob), (M ++ [u, v])[M.length + 1]? = some v := fun u v => by rw [gmk]; rfl
  simp only [wp, wx, w_lengths_T1, len_ref (g1 _ _), ltF, cmp_int, List.length_map]
  by_cases hat : at_ < fr.length
  · have hat' : (at_ : Int) < ((keysB fr).length : Int) := by simp [keysB]; omega
    simp only [hat', decide_true, wc, w_lengths_W1, wp, wx]
    have hq : fr[at_]? = some fr[at_] := List.getElem?_eq_getElem hat
    generalize hqq : fr[at_] = q at hq
    have hkat : ((keysB fr).map pairD)[at_]? = some (pairD q.1) := by
      rw [List.getElem?_map, keysB, List.getElem?_map, hq]; rfl
    have hqok : PairOk m.length q.1 := K0.ok q (List.mem_of_getElem? hq)
    -- front[at], whatever stands behind in it
    have eix : ∀ (ys : List D) (v : Ob), ixF (.v (.ref M.length)) (.v (.int (at_ : Int))) (M ++ [.lst ((keysB fr).map pairD ++ ys), v]) = some (.v (pairD q.1), M ++ [.lst ((keysB fr).map pairD ++ ys), v]) := fun ys v => by
      have hl2 : at_ < ((keysB fr).map pairD ++ ys).length := by simp [keysB]; omega
      simp only [ixF, seqOf, g1, Option.bind_some]
      rw [atI_get _ _ hl2]
      have : ((keysB fr).map pairD ++ ys)[at_]? = some (pairD q.1) := by rw [List.getElem?_append_left (by simp [keysB]; omega)]; exact hkat
      rw [List.getElem?_eq_getElem hl2] at this
      simp only [Option.some.injEq] at this
      simp [this]
    have eix0 := eix [] (.dcr (frD fr))
    rw [List.append_nil] at eix0
    have hgx : ∀ e : Mem, Grp lo (M ++ e) a (aheadF m l (allP m)) 100000 := fun e => hg.keep (by rw [List.getElem?_append_left haM]) fun i _ hi => by rw [List.getElem?_append_left hi]
    have hdc : isDct (.v (.ref a)) (M ++ [.lst ((keysB fr).map pairD), .dcr (frD fr)]) = true := by
      obtain ⟨kvs, e, _⟩ := hgx [.lst ((keysB fr).map pairD), .dcr (frD fr)]
      simp [isDct, dctOf, e]
    simp only [hdc, eix0, wp, wx]
    -- the inner walk over the pairs that letters lead there
    have inner : ∀ (lv : List (Nat × Ob)), (∀ u v : Ob, chk lv (M ++ [u, v])) → WL (gT (.nm 5)) lengths_F1 lv ((nbr m l (some q.1)).map pairD) [some (tM m), P, some (.ref a), some (.ref M.length), some (.ref (M.length + 1)), x, some (.int (at_ : Int))] (M ++ [.lst ((keysB fr).map pairD), .dcr (frD fr)])
        (kSeq (sAug 6 augAdd (eC (.int 1))) (kTurn (fun ρ M' => ∃ k', k' < 700 - at_ ∧ ∃ at_ fr x, k' = 700 - at_ ∧ Bfs (lnx m l) (· ≤ ·) (lsd m l) at_ fr ∧ ρ = [some (tM m), P, some (.ref a), some (.ref M.length), some (.ref (M.length + 1)), x, some (.int (at_ : Int))] ∧ M' = M ++ [.lst ((keysB fr).map pairD), .dcr (frD fr)]) Q)) := by
      intro lv hlv
      have lnxlen : (lnx m l q).length = (nbr m l (some q.1)).length := by simp [lnx]
      refine wl_inv (fun i ρ M' => ∃ g x, g = addAll fr ((lnx m l q).take i) ∧ Kys m g ∧ ρ = [some (tM m), P, some (.ref a), some (.ref M.length), some (.ref (M.length + 1)), x, some (.int (at_ : Int))] ∧ M' = M ++ [.lst ((keysB g).map pairD), .dcr (frD g)]) ⟨fr, x, by simp [addAll], K0, rfl, rfl⟩ (fun i ρ M' _ j => ?_) (fun i y ρ M' hy j => ?_) (fun ρ M' j => ?_)
      · obtain ⟨g, x, _, _, _, rfl⟩ := j; exact hlv _ _
      · obtain ⟨g, x, hgd, Kg, rfl, rfl⟩ := j
        rw [List.getElem?_map] at hy
        obtain ⟨p, e1, rfl⟩ := Option.map_eq_some_iff.mp hy
        obtain ⟨hi, rfl⟩ := List.getElem?_eq_some_iff.mp e1
        have hp : PairOk m.length (nbr m l (some q.1))[i] := (nbr_mem.mp (List.getElem_mem hi)).1
        generalize hpp : (nbr m l (some q.1))[i] = p at hp ⊢
        have hc : (lnx m l q)[i]'(by rw [lnxlen]; exact hi) = (p, q.2 + 1) := by simp [lnx, hpp]
        have hnext : addAll fr ((lnx m l q).take (i + 1)) = put1 g (p, q.2 + 1) := by rw [addAll_take (by rw [lnxlen]; exact hi), hc, hgd]
        obtain ⟨ex, hex, _⟩ := addAll_pre fr ((lnx m l q).take i)
        rw [← hgd] at hex
        have hgl := Kg.len
        have Kn := Kg.put (c := (p, q.2 + 1)) hp
        have e2 : dinF true (.v (pairD p)) (.v (.ref (M.length + 1))) (M ++ [.lst ((keysB g).map pairD), .dcr (frD g)]) = some (.v (.bl (!(lk g p).isSome)), M ++ [.lst ((keysB g).map pairD), .dcr (frD g)]) := by
          simp only [dinF, dctOf, g2, Option.bind_some, key_pair, look_fr, if_true, Option.isSome_map]
        simp only [wp, wx, w_lengths_F1, e2]
        by_cases hk : p ∈ keysB g
        · have hs : (lk g p).isSome = true := by
            cases h : lk g p with
            | none => exact absurd hk (lk_none.mp h)
            | some _ => rfl
          simp only [hs, Bool.not_true, wp, wx]
          refine ⟨g, _, ?_, Kg, rfl, rfl⟩
          rw [hnext, put1_in hk]
        · have hs : (lk g p).isSome = false := by rw [lk_none.mpr hk]; rfl
          have hqg : q ∈ g := by rw [hex]; exact List.mem_append_left _ (List.mem_of_getElem? hq)
          have e3 : dixF (.v (.ref (M.length + 1))) (.v (pairD q.1)) (M ++ [.lst ((keysB g).map pairD), .dcr (frD g)]) = some (.v (.int (q.2 : Int)), M ++ [.lst ((keysB g).map pairD), .dcr (frD g)]) := by
            simp only [dixF, dctOf, g2, Option.bind_some, key_pair, look_fr, lk_at Kg.nd hqg]; rfl
          have e4 := eix ((keysB ex).map pairD) (.dcr (frD g))
          have eg : (keysB g).map pairD = (keysB fr).map pairD ++ (keysB ex).map pairD := by rw [hex]; simp [keysB]
          rw [← eg] at e4
          have hf : fits ((frD g).length + 1) := fits_of (by simp [frD]; omega)
          have e5 : dstoF (.v (.ref (M.length + 1))) (.v (pairD p)) (.int ((q.2 : Int) + 1)) (M ++ [.lst ((keysB g).map pairD), .dcr (frD g)]) = some (M ++ [.lst ((keysB g).map pairD), .dcr (frD (put1 g (p, q.2 + 1)))]) := by
            simp only [dstoF, g2, key_pair, Option.bind_some, if_pos hf, smk]
            rw [← frD_put (m := m) (c := (p, q.2 + 1)) hk]
            simp
          have hf2 : fits (((keysB g).map pairD).length + 1) := fits_of (by simp [keysB]; omega)
          have e6 : appF (.v (.ref M.length)) (.v (pairD p)) (M ++ [.lst ((keysB g).map pairD), .dcr (frD (put1 g (p, q.2 + 1)))]) = some (.v .non, M ++ [.lst ((keysB (put1 g (p, q.2 + 1))).map pairD), .dcr (frD (put1 g (p, q.2 + 1)))]) := by
            simp only [appF, g1, if_pos hf2, val_v, sm0]
            rw [put1_new hk]
            simp [keysB]
          simp only [hs, Bool.not_false, wp, wx, e4, e3, add_int, e5, isT_ref (g1 _ _), e6]
          exact ⟨_, _, hnext.symm, Kn, rfl, rfl⟩
      · obtain ⟨g, x, hgd, Kg, rfl, rfl⟩ := j
        rw [List.length_map, ← lnxlen, List.take_length] at hgd
        have B' := B.step (lrule m l) hq
        rw [← hgd] at B'
        simp only [wp, wx, augAdd_int]
        have hkl := (kys B').len
        have := B'.le
        exact ⟨700 - (at_ + 1), by omega, at_ + 1, g, x, rfl, B', by simp, rfl⟩
    obtain ⟨kvs, hk1, hk2, hk3, hk4, hk5⟩ := hgx [.lst ((keysB fr).map pairD), .dcr (frD fr)]
    have e7 := aheadF_opt m l (some q.1)
    cases hd : dlook kvs (pairD q.1) with
    | some v =>
      obtain ⟨j, rfl, hj1, hj2, hj3, hj4⟩ := hk3 _ _ hd
      have eget : get2F (.v (.ref a)) (.v (pairD q.1)) (.o (.lst [])) (M ++ [.lst ((keysB fr).map pairD), .dcr (frD fr)]) = some (.v (.ref j), M ++ [.lst ((keysB fr).map pairD), .dcr (frD fr)]) := by
        simp only [get2F, dctOf, hk1, Option.bind_some, key_pair, hd]
      have hj3' : (M ++ [Ob.lst ((keysB fr).map pairD), .dcr (frD fr)])[j]? = some (.lst ((nbr m l (some q.1)).map pairD)) := by rw [hj3]; exact congrArg (fun z => some (Ob.lst z)) e7
      simp only [eget, wp, wx, src_ref hj3']
      refine inner _ fun u v => chk_one ?_
      have hjM : j < M.length := by
        obtain ⟨kvs', hk1', _, hk3', _⟩ := hg
        have : kvs = kvs' := by
          rw [List.getElem?_append_left haM, hk1'] at hk1; cases hk1; rfl
        subst this
        obtain ⟨j', e, _, _, hj3'', _⟩ := hk3' _ _ hd
        cases e
        exact (List.getElem?_eq_some_iff.mp hj3'').1
      rw [List.getElem?_append_left hjM] at hj3' ⊢
      exact hj3'
    | none =>
      have hnil : (nbr m l (some q.1)).map pairD = [] := by rw [← e7]; exact hk4 _ hd
      have eget : get2F (.v (.ref a)) (.v (pairD q.1)) (.o (.lst [])) (M ++ [.lst ((keysB fr).map pairD), .dcr (frD fr)]) = some (.o (.lst []), M ++ [.lst ((keysB fr).map pairD), .dcr (frD fr)]) := by
        simp only [get2F, dctOf, hk1, Option.bind_some, key_pair, hd]
      simp only [eget, wp, wx, src_ol]
      have := inner [] fun _ _ => chk_nil
      rw [hnil] at this
      exact this
  · have hat' : ¬ (at_ : Int) < ((keysB fr).length : Int) := by simp [keysB]; omega
    simp only [hat', decide_false, wc]
    have hae : at_ = fr.length := by have := B.le; omega
    subst hae
    exact k fr x _ _ B
theorem lengths_w {m : List (List Nat)} {l : Nat} (hm : Mach m l) (hb : m.length ≤ 26) (hl : l ≤ 6) {M : Mem} {K : PO2} (k : ∀ fr, Lens m l fr → K (.o (.dcr (frD fr))) M) : WO (m_lengths [tM m] M) K := by
  have hN := allP_len hb
  unfold m_lengths
  simp only [wp, wx, wf, Nat.reduceSub, rooms_eq m (by omega), pairs_of_eq (S := List.range m.length) (by simp; omega)]
  rw [show (prs (List.range m.length)).map pairD = (allP m).map pairD from rfl]
  generalize hM1 : (M ++ [Ob.lst ((allP m).map pairD)] : Mem) = M1
  have hL1 : M1.length = M.length + 1 := by rw [← hM1]; simp
  have hg1 : M1[M.length]? = some (.lst ((allP m).map pairD)) := by rw [← hM1]; exact get_end rfl
  -- what follows the dict ahead
  suffices hmain : ∀ (a : Nat) (M2 : Mem), Low M1.length M1 M2 → Grp M1.length M2 a (aheadF m l (allP m)) 100000 → WS (sSeq (sSet 3 (eComp (iE (eVar 1)) [5] (.nm 5) lengths_C1 lengths_E1))
    (sSeq (sSet 4 eDnew)
    (sSeq (sFor (iE (eVar 3)) (gT (.nm 5)) lengths_F2)
    (sSeq (sSet 6 (eC (.int 0)))
    (sSeq (sWhile lengths_T1 lengths_W1)
    (sRet (eVar 4))))))) [some (tM m), some (.ref M.length), some (.ref a), none, none, none, none] M2 (kFn M K) by
    refine ahead_w hm hb hl hg1 (fun a M2 h1 h2 => ?_) (fun h0 => ?_)
    · simp only [kSet_v, kSeq_nx, wx]
      exact hmain a M2 h1 h2
    · simp only [kSet_o, kSeq_nx, wx]
      have hg := Grp.new (lo := M1.length) (M := M1 ++ [.dcr []]) (a := M1.length) (by simp)
      have e : (fun _ => []) = aheadF m l (allP m) := by funext key; exact (h0 key).symm
      rw [e] at hg
      obtain ⟨kvs, q2, q3, q4⟩ := hg
      exact hmain M1.length (M1 ++ [.dcr []]) (low_app (Nat.le_refl _)) ⟨kvs, q2, by omega, q4⟩
  intro a M2 hlow hg
  have hg2 : M2[M.length]? = some (.lst ((allP m).map pairD)) := by rw [hlow.2 M.length (by omega)]; exact hg1
  have hML : M1.length ≤ M2.length := hlow.1
  have hM2 : Low M.length M M2 := by
    refine ⟨by omega, fun i hi => ?_⟩
    rw [hlow.2 i (by omega), ← hM1, List.getElem?_append_left hi]
  simp only [wp, wx, src_ref hg2]
  refine wc_inv (fun i acc M' => M' = M2 ∧ acc = (((allP m).take i).filter (joinB m l)).map pairD) ⟨rfl, by simp⟩ (fun _ _ _ _ j => by rw [j.1]; exact chk_one hg2) (fun i x acc M' hx j => ?_) (fun acc M' j => ?_)
  · obtain ⟨rfl, rfl⟩ := j
    rw [List.getElem?_map] at hx
    obtain ⟨p, e1, rfl⟩ := Option.map_eq_some_iff.mp hx
    obtain ⟨hi, rfl⟩ := List.getElem?_eq_some_iff.mp e1
    have hp : PairOk m.length (allP m)[i] := allP_mem.mp (List.getElem_mem hi)
    have et : ((allP m).take (i + 1)).filter (joinB m l) = ((allP m).take i).filter (joinB m l) ++ (if joinB m l (allP m)[i] = true then [(allP m)[i]] else []) := by
      rw [List.take_add_one, List.getElem?_eq_getElem hi, Option.toList_some, List.filter_append]
      congr 1
      simp [List.filter_cons]
    simp only [wp, wx, wc, w_lengths_C1, joined_eq hm (by omega) hp]
    cases hj : joinB m l (allP m)[i] with
    | true => simp only [wc, w_lengths_E1, wp, wx]; rw [et, hj]; simp
    | false => simp only [wc]; rw [et, hj]; simp
  · obtain ⟨rfl, rfl⟩ := j
    rw [List.length_map, List.take_length]
    simp only [wp, wx, lapp, lcon, lnil, nz]
    generalize hF : M'.length = F at *
    have hgf : ∀ (xs : List D) (o : Ob), (M' ++ [Ob.lst xs] ++ [o])[F]? = some (.lst xs) := fun xs o => by rw [List.append_assoc, ← hF, gm0]; rfl
    have hndk : (keysB (lsd m l)).Nodup := (lrule m l).nd
    have hkeys : ((allP m).filter (joinB m l)).map pairD = (keysB (lsd m l)).map pairD := by simp [keysB, lsd, Function.comp_def]
    have hlsd : (lsd m l).length ≤ 676 := by
      have := List.length_filter_le (joinB m l) (allP m)
      simp only [lsd, List.length_map]; omega
    rw [hkeys]
    have g1 : ∀ (u v : Ob), (M' ++ [u, v])[F]? = some u := fun u v => by rw [← hF, gm0]; rfl
    have g2 : ∀ (u v : Ob), (M' ++ [u, v])[F + 1]? = some v := fun u v => by rw [← hF, gmk]; rfl
    simp only [aas, aco, ani, src_ref (g1 _ _), wp, wx]
    refine wl_typl pairD (keysB (lsd m l)) (fun i ρ M2 => ∃ x, ρ = [some (tM m), some (.ref M.length), some (.ref a), some (.ref F), some (.ref (F + 1)), x, none] ∧ M2 = M' ++ [.lst ((keysB (lsd m l)).map pairD), .dcr (frD ((lsd m l).take i))]) ⟨none, rfl, by simp [frD]⟩ (fun i ρ M2 j => ?_) (fun i hi ρ M2 j => ?_) (fun ρ M2 j => ?_)
    · obtain ⟨x, _, rfl⟩ := j; exact g1 _ _
    · obtain ⟨x, rfl, rfl⟩ := j
      have hi' : i < (lsd m l).length := by simpa [keysB] using hi
      have hk2 : (keysB (lsd m l))[i] = (lsd m l)[i].1 := by simp [keysB]
      have hv2 : (lsd m l)[i].2 = 1 := by simp [lsd]
      have hnk : (lsd m l)[i].1 ∉ keysB ((lsd m l).take i) := by
        intro hmem
        obtain ⟨j, hj, ej⟩ := List.getElem_of_mem hmem
        have hj1 : j < i := by simp [keysB] at hj; omega
        have : (keysB (lsd m l))[j]'(by simp [keysB]; omega) = (keysB (lsd m l))[i] := by rw [hk2, ← ej]; simp [keysB]
        have := nd_inj hndk (by simp [keysB]; omega) (by simpa using hi) this
        omega
      have hf : fits ((frD ((lsd m l).take i)).length + 1) := fits_of (by simp [frD]; omega)
      have e5 : dstoF (.v (.ref (F + 1))) (.v (pairD (lsd m l)[i].1)) (.int 1) (M' ++ [.lst ((keysB (lsd m l)).map pairD), .dcr (frD ((lsd m l).take i))]) = some (M' ++ [.lst ((keysB (lsd m l)).map pairD), .dcr (frD ((lsd m l).take (i + 1)))]) := by
        simp only [dstoF, g2, key_pair, Option.bind_some, if_pos hf]
        rw [← hF, smk, List.take_add_one, List.getElem?_eq_getElem hi', Option.toList_some]
        have := frD_put (m := m) (c := (lsd m l)[i]) hnk
        rw [hv2] at this
        rw [show (D.int 1) = D.int ((1 : Nat) : Int) from rfl, this, put1_new hnk]
        rfl
      simp only [wp, wx, w_lengths_F2, hk2, e5]
      exact ⟨_, rfl, trivial⟩
    · obtain ⟨x, rfl, rfl⟩ := j
      have hkl : (keysB (lsd m l)).length = (lsd m l).length := by simp [keysB]
      rw [hkl, List.take_length]
      simp only [wp, wx]
      rw [← hF]
      refine len_loop hm hb hl hg fun fr x y e L => ?_
      simp only [wp, wx]
      obtain ⟨e', rfl⟩ := hM2.app
      rw [aas, kFn_ra (b := .dcr (frD fr)) (by simp; omega) (by rw [← aas, gmk]; rfl) ?_]
      · exact k fr L
      · show loK _ _
        unfold frD
        clear L
        induction fr with
        | nil => simp [loK]
        | cons c fr ih => rw [List.map_cons, loK]; exact ⟨by simp, by simp, ih⟩
noncomputable def led_F1 (ρ : Env) (m : Mem) : Option R := (sSet 1 (eBin ixF (eBin ixF (eVar 0) (eVar 1)) (eVar 3))) ρ m
theorem w_led_F1 {ρ : Env} {M : Mem} {Q : R → Prop} : WS led_F1 ρ M Q ↔ WS (sSet 1 (eBin ixF (eBin ixF (eVar 0) (eVar 1)) (eVar 3))) ρ M Q := Iff.rfl
noncomputable def m_led : Fn := fnD 3 4
    (sSeq (sFor (iE (eVar 2)) (gT (.nm 3)) led_F1)
    (sRet (eVar 1)))
theorem led_loop {m : List (List Nat)} {l : Nat} (h : Mach m l) {M : Mem} {W : Option D} : ∀ (w : List Nat) (r : Nat) (x : Option D), r < m.length → (∀ a ∈ w, a < l) →
    ∃ y, forL (gT (.nm 3)) led_F1 [] (nats w) [some (tM m), some (.int r), W, x] M = some (.nx [some (tM m), some (.int (ledN m r w : Nat)), W, y] M)
  | [], r, x, hr, _ => ⟨x, by simp [forL_nil, ledN]⟩
  | a :: w, r, x, hr, hw => by
    have ha : a < l := hw a (by simp)
    obtain ⟨y, hy⟩ := led_loop h (M := M) (W := W) w (stp m r a) (some (.int a)) (stp_lt h hr ha) (fun b hb => hw b (by simp [hb]))
    refine ⟨y, ?_⟩
    rw [show nats (a :: w) = .int a :: nats w from rfl, forL_cons]
    simp [led_F1, ix_row hr, ix_stp h hr ha, hy, ledN]
theorem led_eq {m : List (List Nat)} {l : Nat} (h : Mach m l) {M : Mem} (w : List Nat) (r : Nat) (hr : r < m.length) (hw : ∀ a ∈ w, a < l) : m_led [tM m, .int r, tN w] M = some (.v (.int (ledN m r w : Nat)), M) := by
  obtain ⟨y, hy⟩ := led_loop h (M := M) (W := some (tN w)) w r none hr hw
  unfold m_led fnD
  simp [sFor, src_tN, hy, shut_s]
noncomputable def brought_F1 (ρ : Env) (m : Mem) : Option R := (sSet 1 (eCall m_stepped (aCons (eVar 0) (aCons (eVar 1) (aCons (eVar 3) aNil))))) ρ m
theorem w_brought_F1 {ρ : Env} {M : Mem} {Q : R → Prop} : WS brought_F1 ρ M Q ↔ WS (sSet 1 (eCall m_stepped (aCons (eVar 0) (aCons (eVar 1) (aCons (eVar 3) aNil))))) ρ M Q := Iff.rfl
noncomputable def m_brought : Fn := fnD 3 4
    (sSeq (sFor (iE (eVar 2)) (gT (.nm 3)) brought_F1)
    (sRet (eVar 1)))
noncomputable def walked_F1 (ρ : Env) (m : Mem) : Option R := (sSeq (sSet 1 (eCall m_stepped (aCons (eVar 0) (aCons (eVar 1) (aCons (eVar 4) aNil)))))
    (sDo (eMt1 "list" appF (eVar 3) (eVar 1)))) ρ m
theorem w_walked_F1 {ρ : Env} {M : Mem} {Q : R → Prop} : WS walked_F1 ρ M Q ↔ WS (sSeq (sSet 1 (eCall m_stepped (aCons (eVar 0) (aCons (eVar 1) (aCons (eVar 4) aNil)))))
    (sDo (eMt1 "list" appF (eVar 3) (eVar 1)))) ρ M Q := Iff.rfl
noncomputable def m_walked : Fn := fnD 3 5
    (sSeq (sSet 3 (eLst (aCons (eVar 1) aNil)))
    (sSeq (sFor (iE (eVar 2)) (gT (.nm 4)) walked_F1)
    (sRet (eUn tupF (eVar 3)))))
theorem stepped_eq {m : List (List Nat)} {l : Nat} (hm : Mach m l) (hb : m.length ≤ 60) {S : List Nat} (h : RSet m.length S) {a : Nat} (ha : a < l) (M : Mem) : m_stepped [tM m, tN S, .int (a : Int)] M = some (.v (tN (stepN m S a)), M) := by
  have e := cmpL_mp (t := .nm 3) (f := stepped_E1) (ρ := [some (tM m), some (tN S), some (.int (a : Int)), none]) (M := M) (fun (r : Nat) => D.int (r : Int)) (fun (r : Nat) => D.int ((stp m r a : Nat) : Int)) S (fun r hr => by
    refine ⟨_, rfl, ?_⟩
    simp only [stepped_E1, eBin, eVar, List.set_cons_succ, List.set_cons_zero, List.getElem?_cons_succ, List.getElem?_cons_zero, Option.bind_some, ix_row (h.lt r hr), ix_stp hm (h.lt r hr) ha])
  rw [show S.map (fun (r : Nat) => D.int ((stp m r a : Nat) : Int)) = nats (S.map fun r => stp m r a) by simp] at e
  have hl := h.len
  have e2 := sos_nats (w := S.map fun r => stp m r a) (by simp; omega) M
  unfold m_stepped fnD
  simp only [List.length_cons, List.length_nil, if_true, List.map_cons, List.map_nil, List.replicate, List.cons_append, List.nil_append]
  simp only [sRet, eUn, eComp, iE, eVar, List.getElem?_cons_zero, List.getElem?_cons_succ, Option.bind_some, src_tN, wipeE, List.set_cons_succ, List.set_cons_zero, e, e2, tup_ol, tN_eq]
  rw [shut_s (by simp)]
  rfl
theorem brought_loop {m : List (List Nat)} {l : Nat} (hm : Mach m l) (hb : m.length ≤ 60) {W : Option D} {M : Mem} : ∀ (w S : List Nat) (x : Option D), RSet m.length S → (∀ a ∈ w, a < l) →
    ∃ y, forL (gT (.nm 3)) brought_F1 [] (nats w) [some (tM m), some (tN S), W, x] M = some (.nx [some (tM m), some (tN (broughtN m S w)), W, y] M)
  | [], S, x, _, _ => ⟨x, by simp [forL_nil, broughtN]⟩
  | a :: w, S, x, h, hw => by
    have ha : a < l := hw a (by simp)
    obtain ⟨y, hy⟩ := brought_loop hm hb (W := W) (M := M) w (stepN m S a) (some (.int (a : Int))) (stepN_set hm h ha) fun b hb => hw b (by simp [hb])
    refine ⟨y, ?_⟩
    rw [show nats (a :: w) = .int (a : Int) :: nats w from rfl, forL_cons]
    have e := stepped_eq hm hb h ha M
    simp only [gT, Tg.put, Option.map_some, Option.bind_some, brought_F1, sSet, eCall, aCons, aNil, eVar, List.set_cons_succ, List.set_cons_zero, List.getElem?_cons_succ, List.getElem?_cons_zero, val_v, e, hy]
    rfl
theorem brought_eq {m : List (List Nat)} {l : Nat} (hm : Mach m l) (hb : m.length ≤ 60) {S : List Nat} (h : RSet m.length S) {w : List Nat} (hw : ∀ a ∈ w, a < l) (M : Mem) : m_brought [tM m, tN S, tN w] M = some (.v (tN (broughtN m S w)), M) := by
  obtain ⟨y, hy⟩ := brought_loop hm hb (W := some (tN w)) (M := M) w S none h hw
  unfold m_brought fnD
  simp only [List.length_cons, List.length_nil, if_true, List.map_cons, List.map_nil, List.replicate, List.cons_append, List.nil_append]
  simp only [sSeq, sFor, iE, eVar, List.getElem?_cons_zero, List.getElem?_cons_succ, Option.bind_some, src_tN, hy, sRet]
  rw [shut_s (by simp)]
def walkedN (m : List (List Nat)) (S : List Nat) : List Nat → List (List Nat)
  | [] => [S]
  | a :: w => S :: walkedN m (stepN m S a) w
theorem walked_loop {m : List (List Nat)} {l : Nat} (hm : Mach m l) (hb : m.length ≤ 60) {W : Option D} {M : Mem} : ∀ (w S : List Nat) (x : Option D) (T : List (List Nat)), RSet m.length S → (∀ a ∈ w, a < l) → T.length + w.length ≤ 99990 →
    ∃ y S', forL (gT (.nm 4)) walked_F1 [] (nats w) [some (tM m), some (tN S), W, some (.ref M.length), x] (M ++ [.lst ((T ++ [S]).map tN)]) = some (.nx [some (tM m), some (tN S'), W, some (.ref M.length), y] (M ++ [.lst ((T ++ walkedN m S w).map tN)]))
  | [], S, x, T, _, _, _ => ⟨x, S, by simp [forL_nil, walkedN]⟩
  | a :: w, S, x, T, h, hw, hz => by
    have ha : a < l := hw a (by simp)
    obtain ⟨y, S', hy⟩ := walked_loop hm hb (W := W) (M := M) w (stepN m S a) (some (.int (a : Int))) (T ++ [S]) (stepN_set hm h ha) (fun b hb => hw b (by simp [hb])) (by simp at hz ⊢; omega)
    refine ⟨y, S', ?_⟩
    rw [show nats (a :: w) = .int (a : Int) :: nats w from rfl, forL_cons]
    have e := stepped_eq hm hb h ha (M ++ [.lst ((T ++ [S]).map tN)])
    have hf : fits (((T ++ [S]).map tN).length + 1) := fits_of (by simp at hz ⊢; omega)
    simp only [gT, Tg.put, Option.map_some, Option.bind_some, walked_F1, sSeq, sSet, sDo, eMt1, eCall, aCons, aNil, eVar, List.set_cons_succ, List.set_cons_zero, List.getElem?_cons_succ, List.getElem?_cons_zero, val_v, e, isTyB, get_end rfl, beq_self_eq_true, if_true, appF, if_pos hf, set_end (rfl : M.length = M.length)]
    rw [show (T ++ [S]).map tN ++ [tN (stepN m S a)] = (T ++ [S] ++ [stepN m S a]).map tN by simp, hy]
    simp [walkedN]
theorem walked_eq {m : List (List Nat)} {l : Nat} (hm : Mach m l) (hb : m.length ≤ 60) {S : List Nat} (h : RSet m.length S) {w : List Nat} (hw : ∀ a ∈ w, a < l) (hz : w.length ≤ 90000) (M : Mem) : m_walked [tM m, tN S, tN w] M = some (.v (tM (walkedN m S w)), M) := by
  obtain ⟨y, S', hy⟩ := walked_loop hm hb (W := some (tN w)) (M := M) w S none [] h hw (by simp; omega)
  simp only [List.nil_append] at hy
  have hf : fits 1 := fits_of (by omega)
  unfold m_walked fnD
  simp only [List.length_cons, List.length_nil, if_true, List.map_cons, List.map_nil, List.replicate, List.cons_append, List.nil_append]
  simp only [sSeq, sSet, eLst, aCons, aNil, eVar, List.getElem?_cons_zero, List.getElem?_cons_succ, Option.bind_some, val_v, List.length_cons, List.length_nil, if_pos hf, val_o, List.set_cons_succ, List.set_cons_zero, sFor, iE, src_tN]
  simp only [List.map_cons, List.map_nil] at hy
  simp only [hy, Option.bind_some, sRet, eUn, eVar, List.getElem?_cons_zero, List.getElem?_cons_succ, tup_ref (get_end (rfl : M.length = M.length))]
  rw [show D.tup ((walkedN m S w).map tN) = tM (walkedN m S w) from rfl, shut_v (by simp)]
theorem sl_tN (w : List Nat) (k : Nat) (M : Mem) : slF (.v (tN w)) none (some (k : Int)) M = some (.v (tN (w.take k)), M) := by
  unfold tN
  rw [sl_tup, cut_to (by omega)]
  simp [nats]
theorem walkedN_eq (m : List (List Nat)) : ∀ (w S : List Nat), walkedN m S w = (List.range (w.length + 1)).map fun k => broughtN m S (w.take k)
  | [], S => by simp [walkedN, broughtN]
  | a :: w, S => by
    rw [walkedN, walkedN_eq m w, List.length_cons, List.range_succ_eq_map (n := w.length + 1), List.map_cons, List.map_map]
    rfl
noncomputable def m_is_word : Fn := fnD 2 2
    (sRet (eCall m_is_row (aCons (eVar 1) (aCons (eCall m_letters_of (aCons (eVar 0) aNil)) aNil))))
noncomputable def is_rising_E1 (ρ : Env) (m : Mem) : Option (Out × Mem) := (eBin ltF (eVar 1) (eVar 2)) ρ m
theorem w_is_rising_E1 {ρ : Env} {M : Mem} {Q : PO2} : WE is_rising_E1 ρ M Q ↔ WE (eBin ltF (eVar 1) (eVar 2)) ρ M Q := Iff.rfl
noncomputable def m_is_rising : Fn := fnD 1 3
    (sRet (eUn allF (eComp (iZip (eVar 0) (eSl (eVar 0) (oSome (eC (.int 1))) oNone)) [1, 2] (.tp [1, 2]) bYes is_rising_E1)))
noncomputable def m_is_set : Fn := fnD 2 2
    (sRet (eAnd (eCall m_is_row (aCons (eVar 1) (aCons (eUn lenF (eVar 0)) aNil))) (eAnd (eBin gtF (eUn lenF (eVar 1)) (eC (.int 0))) (eCall m_is_rising (aCons (eVar 1) aNil)))))
theorem rowB_nat {n : Nat} {d : D} (h : rowB (n : Int) d = true) : ∃ w : List Nat, d = tN w ∧ ∀ r ∈ w, r < n := by
  cases d with
  | tup xs =>
    simp only [rowB, List.all_eq_true] at h
    have key : ∀ ys : List D, (∀ x ∈ ys, inB (n : Int) x = true) → ∃ w : List Nat, ys = nats w ∧ ∀ r ∈ w, r < n := by
      intro ys
      induction ys with
      | nil => intro _; exact ⟨[], rfl, by simp⟩
      | cons y ys ih =>
        intro hy
        obtain ⟨w, rfl, hw⟩ := ih fun x hx => hy x (by simp [hx])
        have := hy y (by simp)
        cases y with
        | int i =>
          simp only [inB, Bool.and_eq_true, decide_eq_true_eq] at this
          refine ⟨i.toNat :: w, ?_, fun r hr => ?_⟩
          · simp only [nats, List.map_cons, List.cons.injEq, and_true]
            rw [Int.toNat_of_nonneg this.1]
          · rcases List.mem_cons.mp hr with rfl | hr
            · omega
            · exact hw r hr
        | _ => simp [inB] at this
    obtain ⟨w, rfl, hw⟩ := key xs h
    exact ⟨w, rfl, hw⟩
  | _ => simp [rowB] at h
theorem word_row {m : List (List Nat)} {l : Nat} (hm : Mach m l) (h0 : 0 < m.length) {M : Mem} {d : D} (h : kn M d) : m_is_word [tM m, d] M = some (.v (.bl (rowB (l : Int) d)), M) := by
  refine wo_eq ?_
  unfold m_is_word
  simp only [wp, wx, wf, Nat.reduceSub, letters_eq hm h0, row_eq h]
  rw [kFn_v (by simp)]
  exact ⟨rfl, rfl⟩
def riseB (S : List Nat) : Bool := (S.zip (S.drop 1)).all fun p => decide (p.1 < p.2)
theorem riseB_iff : ∀ S : List Nat, riseB S = true ↔ S.Pairwise (· < ·)
  | [] => by simp [riseB]
  | [a] => by simp [riseB]
  | a :: b :: S => by
    have ih := riseB_iff (b :: S)
    have e : riseB (a :: b :: S) = (decide (a < b) && riseB (b :: S)) := rfl
    rw [e, Bool.and_eq_true, ih, decide_eq_true_eq]
    constructor
    · rintro ⟨h1, h2⟩
      refine List.pairwise_cons.mpr ⟨fun c hc => ?_, h2⟩
      rcases List.mem_cons.mp hc with rfl | hc
      · exact h1
      · exact Nat.lt_trans h1 ((List.pairwise_cons.mp h2).1 c hc)
    · intro h
      exact ⟨(List.pairwise_cons.mp h).1 b (by simp), (List.pairwise_cons.mp h).2⟩
def ppD (p : Nat × Nat) : D := .par [.int (p.1 : Int), .int (p.2 : Int)]
theorem zip_nats : ∀ a b : List Nat, zipD (nats a) (nats b) = (a.zip b).map ppD
  | [], _ => by simp [nats, zipD]
  | _ :: _, [] => by simp [nats, zipD]
  | x :: a, y :: b => by
    have := zip_nats a b
    simp only [nats] at this
    simp [nats, zipD, ppD, this]
theorem put_pp {i j : Nat} {p : Nat × Nat} {ρ : Env} : Tg.put (.tp [i, j]) (ppD p) ρ = some ((ρ.set i (some (.int (p.1 : Int)))).set j (some (.int (p.2 : Int)))) := rfl
theorem sl_one (S : List Nat) (M : Mem) : slF (.v (tN S)) (some 1) none M = some (.v (tN (S.drop 1)), M) := by
  rw [tN, sl_tup, cut_from (by decide)]
  simp [tN, nats]
theorem zip_tN (a b : List Nat) (M : Mem) : zipOf (.v (tN a)) (.v (tN b)) M = some ⟨(a.zip b).map ppD, []⟩ := by
  rw [← zip_nats]; rfl
theorem rising_eq (S : List Nat) (M : Mem) : m_is_rising [tN S] M = some (.v (.bl (riseB S)), M) := by
  refine wo_eq ?_
  unfold m_is_rising
  simp only [wp, wx, wf, Nat.reduceSub, sl_one, zip_tN]
  refine wc_map ppD (fun p => .bl (decide (p.1 < p.2))) _ (fun p hp => ?_) ?_
  · simp only [wp, wx, put_pp, w_is_rising_E1, ltF, cmp_int]
    refine ⟨?_, rfl⟩
    congr 2
    rw [Bool.eq_iff_iff, decide_eq_true_eq, decide_eq_true_eq]; omega
  · simp only [wp, wx, all_map]
    rw [kFn_v (by simp)]
    exact ⟨rfl, rfl⟩
/-- is it a set of the machine's rooms? -/
def setB (n : Nat) (d : D) : Bool := match d with
  | .tup xs => rowB n (.tup xs) && (!xs.isEmpty && match natsOf xs with | some S => riseB S | none => false)
  | _ => false
where natsOf : List D → Option (List Nat)
  | [] => some []
  | .int i :: r => (natsOf r).map (i.toNat :: ·)
  | _ => none
theorem natsOf_nats : ∀ w : List Nat, setB.natsOf (nats w) = some w
  | [] => rfl
  | a :: w => by
    have := natsOf_nats w
    simp only [nats] at this
    simp [nats, setB.natsOf, this]
theorem setB_iff {n : Nat} {d : D} : setB n d = true ↔ ∃ S, d = tN S ∧ RSet n S ∧ S ≠ [] := by
  constructor
  · intro h
    cases d with
    | tup xs =>
      simp only [setB, Bool.and_eq_true] at h
      obtain ⟨h1, h2, h3⟩ := h
      obtain ⟨w, e, hw⟩ := rowB_nat h1
      have e2 : xs = nats w := by injection e
      subst e2
      rw [natsOf_nats] at h3
      refine ⟨w, rfl, ⟨(riseB_iff w).mp h3, hw⟩, ?_⟩
      intro z; subst z; simp at h2
    | _ => simp [setB] at h
  · rintro ⟨S, rfl, hS, hne⟩
    have h1 := rowB_nats (n := n) hS.2
    simp only [tN] at h1 ⊢
    simp only [setB, Bool.and_eq_true, natsOf_nats, h1, (riseB_iff S).mpr hS.1, and_true, true_and]
    cases S with
    | nil => exact absurd rfl hne
    | cons a S => rfl
theorem set_eq (m : List (List Nat)) {M : Mem} {d : D} (h : kn M d) : m_is_set [tM m, d] M = some (.v (.bl (setB m.length d)), M) := by
  refine wo_eq ?_
  have lo : ∀ b : Bool, (D.bl b).lo M.length := by simp
  unfold m_is_set
  simp only [wp, wx, wf, Nat.reduceSub, len_tM, row_eq h]
  cases hr : rowB (m.length : Int) d with
  | false =>
    simp only [wp, wx, kFn_v (lo _)]
    refine ⟨?_, rfl⟩
    congr 2
    cases d with
    | tup xs => simp [setB, hr]
    | _ => rfl
  | true =>
    obtain ⟨w, rfl, hw⟩ := rowB_nat hr
    simp only [wp, wx, len_tN, gtF, cmp_int]
    cases w with
    | nil =>
      simp only [List.length_nil, Int.ofNat_zero, Int.natCast_zero, Int.lt_irrefl, decide_false, wp, wx, kFn_v (lo _)]
      exact ⟨rfl, rfl⟩
    | cons a w =>
      have hp : (0 : Int) < (((a :: w).length : Nat) : Int) := by simp only [List.length_cons]; omega
      simp only [hp, decide_true, wp, wx, rising_eq, kFn_v (lo _)]
      refine ⟨?_, rfl⟩
      have : setB m.length (tN (a :: w)) = riseB (a :: w) := by
        simp only [tN] at hr ⊢
        simp only [setB, hr, natsOf_nats, Bool.true_and]
        rfl
      rw [this]
theorem flat_nats (w : List Nat) : (nats w).all flatD = true := by simp [flatD]
theorem findIdx_nats : ∀ (o : List Nat) (r : Nat), r ∈ o → (nats o).findIdx? (fun d => d.eqb (.int (r : Int))) = some (o.idxOf r)
  | [], r, h => by simp at h
  | x :: o, r, h => by
    by_cases hx : x = r
    · subst hx
      simp [List.findIdx?_cons, D.eqb]
    · have hx' : ¬ (x : Int) = (r : Int) := by omega
      have ih := findIdx_nats o r (by
        rcases List.mem_cons.mp h with e | e
        · exact absurd e.symm hx
        · exact e)
      rw [show nats (x :: o) = .int (x : Int) :: nats o from rfl, List.findIdx?_cons, ih]
      have : (x == r) = false := by simp [hx]
      simp [D.eqb, hx', List.idxOf_cons, this]
theorem idx_nat {o : List Nat} {r : Nat} (h : r ∈ o) (M : Mem) : idxTF (.v (tN o)) (.v (.int (r : Int))) M = some (.v (.int ((o.idxOf r : Nat) : Int)), M) := by
  have hf := findIdx_nats o r h
  have ha := flat_nats o
  simp only [tN, idxTF, form, Option.bind_some, flatD, ha, and_self, if_true, hf, Option.map_some]
theorem dcnt_aux (ns : List Int) : ∀ i, i ≤ ns.length → (PyProof.Rows.firstMet (fun i => ns.getD i 0) i).Nodup ∧ ∀ x, x ∈ PyProof.Rows.firstMet (fun i => ns.getD i 0) i ↔ x ∈ ns.take i
  | 0, _ => by simp [PyProof.Rows.firstMet_zero]
  | i + 1, hi => by
    obtain ⟨h1, h2⟩ := dcnt_aux ns i (by omega)
    have hi' : i < ns.length := by omega
    have eg : ns.getD i 0 = ns[i] := by simp [List.getD, hi']
    rw [PyProof.Rows.firstMet_succ, List.take_add_one, List.getElem?_eq_getElem hi', eg]
    unfold PyProof.Rows.step_dedup
    by_cases h : ns[i] ∈ PyProof.Rows.firstMet (fun i => ns.getD i 0) i
    · rw [if_pos (by rw [List.any_eq_true]; exact ⟨_, h, by simp⟩)]
      refine ⟨h1, fun x => ?_⟩
      rw [h2, List.mem_append]
      constructor
      · exact .inl
      · rintro (z | z)
        · exact z
        · simp at z; rw [z]; exact (h2 _).mp h
    · rw [if_neg (by rw [List.any_eq_true]; rintro ⟨y, hy, e⟩; simp at e; rw [e] at hy; exact h hy)]
      refine ⟨?_, fun x => ?_⟩
      · rw [List.nodup_append]
        exact ⟨h1, by simp, fun a ha b hb => by simp at hb; subst hb; exact fun z => h (z ▸ ha)⟩
      · rw [List.mem_append, List.mem_append, h2]; simp
theorem dcnt_nat (v : List Nat) : dcnt (v.map fun (n : Nat) => (n : Int)) = (sortN v).length := by
  obtain ⟨h1, h2⟩ := dcnt_aux (v.map fun (n : Nat) => (n : Int)) _ (Nat.le_refl _)
  rw [List.take_length] at h2
  have hn : ((sortN v).map fun (n : Nat) => (n : Int)).Nodup := by
    rw [List.Nodup, List.pairwise_map]
    exact (sortN_rise v).imp fun h z => by omega
  have := ((List.perm_ext_iff_of_nodup h1 hn).mpr fun x => by
    rw [h2]
    simp only [List.mem_map, sortN_mem]).length_eq
  unfold dcnt
  rw [this, List.length_map]
theorem lns_nats {v : List Nat} (h : v.length ≤ 1000) (M : Mem) : lnsF (.o (.lst (nats v))) M = some (.v (.int (((sortN v).length : Nat) : Int)), M) := by
  have e : nats v = (v.map fun (n : Nat) => (n : Int)).map D.int := by simp
  unfold lnsF
  simp only [lstOf, Option.bind_some]
  rw [e, intsOf_map]
  simp only [Option.bind_some, List.length_map, if_pos h, dcnt_nat]
noncomputable def keeps_phases_F1 (ρ : Env) (m : Mem) : Option R := (sIf (bOr (bOf (eBin (inF true) (eVar 5) (eVar 1))) (bOf (eBin neF (eBin ixF (eVar 3) (eTm1 idxTF (eVar 1) (eVar 5))) (eBin modF (eBin addF (eBin ixF (eVar 3) (eVar 4)) (eC (.int 1))) (eVar 2))))) (sRet (eC (.bl false))) sNil) ρ m
theorem w_keeps_phases_F1 {ρ : Env} {M : Mem} {Q : R → Prop} : WS keeps_phases_F1 ρ M Q ↔ WS (sIf (bOr (bOf (eBin (inF true) (eVar 5) (eVar 1))) (bOf (eBin neF (eBin ixF (eVar 3) (eTm1 idxTF (eVar 1) (eVar 5))) (eBin modF (eBin addF (eBin ixF (eVar 3) (eVar 4)) (eC (.int 1))) (eVar 2))))) (sRet (eC (.bl false))) sNil) ρ M Q := Iff.rfl
noncomputable def m_keeps_phases : Fn := fnD 5 6
    (sSeq (sFor (iE (eBin ixF (eVar 0) (eBin ixF (eVar 1) (eVar 4)))) (gT (.nm 5)) keeps_phases_F1)
    (sRet (eC (.bl true))))
noncomputable def is_beat_E1 (ρ : Env) (m : Mem) : Option (Out × Mem) := (eCall m_keeps_phases (aCons (eVar 0) (aCons (eVar 2) (aCons (eVar 3) (aCons (eVar 4) (aCons (eVar 5) aNil)))))) ρ m
theorem w_is_beat_E1 {ρ : Env} {M : Mem} {Q : PO2} : WE is_beat_E1 ρ M Q ↔ WE (eCall m_keeps_phases (aCons (eVar 0) (aCons (eVar 2) (aCons (eVar 3) (aCons (eVar 4) (aCons (eVar 5) aNil)))))) ρ M Q := Iff.rfl
noncomputable def is_beat_E2 (ρ : Env) (m : Mem) : Option (Out × Mem) := (eCall m_is_whole (aCons (eVar 6) aNil)) ρ m
theorem w_is_beat_E2 {ρ : Env} {M : Mem} {Q : PO2} : WE is_beat_E2 ρ M Q ↔ WE (eCall m_is_whole (aCons (eVar 6) aNil)) ρ M Q := Iff.rfl
noncomputable def m_is_beat : Fn := fnD 2 7
    (sSeq (sIf (bOr (bNot (bOf (eUn (isiF .tuple) (eVar 1)))) (bOr (bOf (eBin neF (eUn lenF (eVar 1)) (eC (.int 3)))) (bOr (bNot (bOf (eCall m_is_set (aCons (eVar 0) (aCons (eBin ixF (eVar 1) (eC (.int 0))) aNil))))) (bNot (bOf (eCall m_is_whole (aCons (eBin ixF (eVar 1) (eC (.int 1))) aNil))))))) (sRet (eC (.bl false))) sNil)
    (sSeq (sPut (eVar 1) (gT (.tp [2, 3, 4])))
    (sSeq (sIf (bOr (bNot (bOf (eUn (isiF .tuple) (eVar 4)))) (bOr (bOf (eBin neF (eUn lenF (eVar 4)) (eUn lenF (eVar 2)))) (bNot (bOf (eUn allF (eComp (iE (eVar 4)) [6] (.nm 6) bYes is_beat_E2)))))) (sRet (eC (.bl false))) sNil)
    (sSeq (sIf (bOr (bOf (eBin neF (eUn lnuF (eVar 4)) (eVar 3))) (bOr (bOf (eBin neF (eUn min1F (eVar 4)) (eC (.int 0)))) (bOf (eBin neF (eUn max1F (eVar 4)) (eBin subF (eVar 3) (eC (.int 1))))))) (sRet (eC (.bl false))) sNil)
    (sRet (eUn allF (eComp (iRg1 (eUn lenF (eVar 2))) [5] (.nm 5) bYes is_beat_E1)))))))
noncomputable def shows_beats_F1 (ρ : Env) (m : Mem) : Option R := (sDo (eMt1 "list" extTF (eVar 2) (eVar 3))) ρ m
theorem w_shows_beats_F1 {ρ : Env} {M : Mem} {Q : R → Prop} : WS shows_beats_F1 ρ M Q ↔ WS (sDo (eMt1 "list" extTF (eVar 2) (eVar 3))) ρ M Q := Iff.rfl
noncomputable def shows_beats_E1 (ρ : Env) (m : Mem) : Option (Out × Mem) := (eCall m_is_beat (aCons (eVar 0) (aCons (eVar 6) aNil))) ρ m
theorem w_shows_beats_E1 {ρ : Env} {M : Mem} {Q : PO2} : WE shows_beats_E1 ρ M Q ↔ WE (eCall m_is_beat (aCons (eVar 0) (aCons (eVar 6) aNil))) ρ M Q := Iff.rfl
noncomputable def m_shows_beats : Fn := fnD 2 7
    (sSeq (sIf (bOr (bNot (bOf (eUn (isiF .tuple) (eVar 1)))) (bNot (bOf (eUn allF (eComp (iE (eVar 1)) [6] (.nm 6) bYes shows_beats_E1))))) (sRet (eC (.bl false))) sNil)
    (sSeq (sSet 2 (eLst aNil))
    (sSeq (sFor (iE (eVar 1)) (gT (.tp [3, 4, 5])) shows_beats_F1)
    (sRet (eBin eqF (eUn lnsF (eVar 2)) (eUn lenF (eVar 2)))))))
/-! ### beats, of anything -/
theorem ordd_int : Ordd (fun n : Int => D.int n) (· < ·) where
  pd := fun a b => by simp only [D.pd, PySem.W.dataLt_int]
  al := fun a b => by simp [D.pd, PySem.W.alike]
  ok := fun a => by simp [okD]
  nn := fun a => by simp [D.pd]
  irr := fun a => by omega
  tr := fun a b c => by omega
/-- a set that no way leaves, with phases that all ways keep -/
structure IsBt (W : List (List Nat)) (P : List Nat) (b : Nat) (ph : List Nat) : Prop where
  rs : RSet W.length P
  ne : P ≠ []
  len : ph.length = P.length
  cov : ∀ v, v ∈ ph ↔ v < b
  keep : ∀ i, i < P.length → ∀ g ∈ W.getD (P.getD i 0) [], g ∈ P ∧ ph.getD (P.idxOf g) 0 = (ph.getD i 0 + 1) % b
def btD (P : List Nat) (b : Nat) (ph : List Nat) : D := .tup [tN P, .int (b : Int), tN ph]
open Classical in
noncomputable def btB (W : List (List Nat)) (d : D) : Bool := decide (∃ P b ph, d = btD P b ph ∧ IsBt W P b ph)
open Classical in
theorem btB_true {W : List (List Nat)} {P : List Nat} {b : Nat} {ph : List Nat} (h : IsBt W P b ph) : btB W (btD P b ph) = true := by unfold btB; exact decide_eq_true ⟨P, b, ph, rfl, h⟩
open Classical in
theorem btB_false {W : List (List Nat)} {d : D} (h : ¬ ∃ P b ph, d = btD P b ph ∧ IsBt W P b ph) : btB W d = false := by unfold btB; exact decide_eq_false h
open Classical in
theorem btB_iff {W : List (List Nat)} {d : D} : btB W d = true ↔ ∃ P b ph, d = btD P b ph ∧ IsBt W P b ph := by unfold btB; exact decide_eq_true_iff
theorem tN_injB {a b : List Nat} (h : tN a = tN b) : a = b := by
  unfold tN at h
  injection h with h
  have : ∀ a b : List Nat, nats a = nats b → a = b := by
    intro a
    induction a with
    | nil => intro b h; cases b with
      | nil => rfl
      | cons y b => simp [nats] at h
    | cons x a ih => intro b h; cases b with
      | nil => simp [nats] at h
      | cons y b =>
        simp only [nats, List.map_cons] at h
        injection h with h1 h2
        injection h1 with h1
        rw [ih b h2, Int.ofNat_inj.mp h1]
  exact this a b h
theorem cov_iff {ns : List Int} {bi a c : Int} (ha : a ∈ ns) (ha2 : ∀ x ∈ ns, ¬ x < a) (hc : c ∈ ns) (hc2 : ∀ x ∈ ns, ¬ c < x) : (((sortU ns).length : Nat) : Int) = bi ∧ a = 0 ∧ c = bi - 1 ↔ ∃ (b : Nat) (ph : List Nat), bi = (b : Int) ∧ ns = ph.map (fun (n : Nat) => (n : Int)) ∧ ∀ v, v ∈ ph ↔ v < b := by
  constructor
  · rintro ⟨h1, rfl, rfl⟩
    have hin : ∀ x ∈ ns, 0 ≤ x ∧ x < bi := fun x hx => by have := ha2 x hx; have := hc2 x hx; omega
    have e : ns = (ns.map Int.toNat).map fun (n : Nat) => (n : Int) := by
      rw [List.map_map]
      have : ∀ x ∈ ns, ((fun (n : Nat) => (n : Int)) ∘ Int.toNat) x = x := fun x hx => by have := hin x hx; simp; omega
      exact (List.map_id ns).symm.trans (List.map_congr_left fun x hx => (this x hx).symm)
    refine ⟨(sortU ns).length, ns.map Int.toNat, h1.symm, e, fun v => ⟨fun hv => ?_, fun hv => ?_⟩⟩
    · obtain ⟨x, hx, rfl⟩ := List.mem_map.mp hv
      have := hin x hx; omega
    · refine Classical.byContradiction fun hn => ?_
      have hnd : (v :: (sortU ns).map Int.toNat).Nodup := by
        rw [List.nodup_cons]
        refine ⟨fun z => ?_, ?_⟩
        · obtain ⟨x, hx, rfl⟩ := List.mem_map.mp z
          exact hn (List.mem_map.mpr ⟨x, (sortU_mem _ _).mp hx, rfl⟩)
        · rw [List.Nodup, List.pairwise_map]
          refine (List.Pairwise.and_mem.mp (sortU_rise ns)).imp fun {x y} h => ?_
          have h1 := hin x ((sortU_mem _ _).mp h.1)
          have h2 := hin y ((sortU_mem _ _).mp h.2.1)
          have h3 := h.2.2
          omega
      have := nodup_lenN hnd (U := List.range (sortU ns).length) fun x hx => by
        rw [List.mem_range]
        rcases List.mem_cons.mp hx with rfl | hx
        · exact hv
        · obtain ⟨y, hy, rfl⟩ := List.mem_map.mp hx
          have := hin y ((sortU_mem _ _).mp hy); omega
      simp at this
      omega
  · rintro ⟨b, ph, rfl, rfl, hcov⟩
    have hl : ((List.range b).map fun (n : Nat) => (n : Int)).length = (sortU (ph.map fun (n : Nat) => (n : Int))).length := sortU_len (by
      rw [List.Nodup, List.pairwise_map]
      exact List.pairwise_lt_range.imp fun h => by omega) fun k => by
      simp only [List.mem_map, List.mem_range]
      constructor
      · rintro ⟨n, hn, rfl⟩; exact ⟨n, (hcov n).mpr hn, rfl⟩
      · rintro ⟨n, hn, rfl⟩; exact ⟨n, (hcov n).mp hn, rfl⟩
    obtain ⟨a', ha', rfl⟩ := List.mem_map.mp ha
    obtain ⟨c', hc', rfl⟩ := List.mem_map.mp hc
    have h1 := (hcov a').mp ha'
    have h2 := (hcov c').mp hc'
    have h3 := ha2 ((0 : Nat) : Int) (List.mem_map.mpr ⟨0, (hcov 0).mpr (by omega), rfl⟩)
    have h4 := hc2 ((b - 1 : Nat) : Int) (List.mem_map.mpr ⟨b - 1, (hcov _).mpr (by omega), rfl⟩)
    rw [List.length_map, List.length_range] at hl
    rw [← hl]
    refine ⟨rfl, by omega, by omega⟩
theorem keeps_w {W : List (List Nat)} {l : Nat} (hW : Mach W l) {P ph : List Nat} (hP : ∀ r ∈ P, r < W.length) (hl : ph.length = P.length) {b i : Nat} (hb : 0 < b) (hi : i < P.length) (M : Mem) : m_keeps_phases [tM W, tN P, .int (b : Int), tN ph, .int (i : Int)] M = some (.v (.bl ((W.getD (P.getD i 0) []).all fun g => decide (g ∈ P) && decide (ph.getD (P.idxOf g) 0 = (ph.getD i 0 + 1) % b))), M) := by
  refine wo_eq ?_
  unfold m_keeps_phases
  have hPi : P[i] < W.length := hP _ (List.getElem_mem hi)
  have e1 : ∀ M : Mem, ixF (.v (tN P)) (.v (.int (i : Int))) M = some (.v (.int ((P[i] : Nat) : Int)), M) := fun M => ix_nat hi M
  have e2 : P.getD i 0 = P[i] := by simp [List.getD, hi]
  have e3 : W.getD P[i] [] = W[P[i]] := by simp [List.getD, hPi]
  rw [e2, e3]
  have hz : ¬ ((b : Int) = 0) := by omega
  simp only [wp, wx, wf, Nat.reduceSub, e1, ix_row hPi, src_tN]
  refine wl_typ (fun (r : Nat) => D.int (r : Int)) W[P[i]] (fun j ρ M' => M' = M ∧ ((W[P[i]].take j).all fun g => decide (g ∈ P) && decide (ph.getD (P.idxOf g) 0 = (ph.getD i 0 + 1) % b)) = true ∧ ∃ x5, ρ = [some (tM W), some (tN P), some (.int (b : Int)), some (tN ph), some (.int (i : Int)), x5]) ⟨rfl, by simp, _, rfl⟩ (fun j hj ρ M' J => ?_) (fun ρ M' J => ?_)
  · obtain ⟨rfl, hA, x5, rfl⟩ := J
    have stp1 : ∀ q : Nat → Bool, ((W[P[i]].take (j + 1)).all q) = ((W[P[i]].take j).all q && q W[P[i]][j]) := fun q => by
      rw [List.take_add_one, List.getElem?_eq_getElem hj, Option.toList_some, List.all_append]; simp
    have bad : ∀ q : Nat → Bool, q W[P[i]][j] = false → W[P[i]].all q = false := fun q hq => by
      rw [Bool.eq_false_iff]; intro h
      have := List.all_eq_true.mp h _ (List.getElem_mem hj)
      rw [hq] at this; cases this
    simp only [wp, wx, w_keeps_phases_F1, in_tN]
    by_cases hg : W[P[i]][j] ∈ P
    · have hx : P.idxOf W[P[i]][j] < ph.length := by rw [hl]; exact List.idxOf_lt_length_of_mem hg
      have hx2 : i < ph.length := by omega
      have m1 : ∀ M : Mem, modF (.v (.int (((ph[i] : Nat) : Int) + 1))) (.v (.int (b : Int))) M = some (.v (.int (((ph[i] + 1) % b : Nat) : Int)), M) := fun M => by
        rw [mod_int, if_pos (by omega)]; rfl
      simp only [hg, decide_true, Bool.not_true, if_true, wp, wx, idx_nat hg, ix_nat hx, ix_nat hx2, add_int, m1, ne_int]
      have g1 : ph.getD (P.idxOf W[P[i]][j]) 0 = ph[P.idxOf W[P[i]][j]] := by simp [List.getD, hx]
      have g2 : ph.getD i 0 = ph[i] := by simp [List.getD, hx2]
      by_cases hq : ph[P.idxOf W[P[i]][j]] = (ph[i] + 1) % b
      · have hq' : ((ph[P.idxOf W[P[i]][j]] : Nat) : Int) = (((ph[i] + 1) % b : Nat) : Int) := by rw [hq]
        simp only [hq', decide_true, Bool.not_true, wp, wx]
        refine ⟨?_, _, rfl⟩
        rw [stp1, hA, g1, g2]
        simp [hg, hq]
      · have hq' : ¬ ((ph[P.idxOf W[P[i]][j]] : Nat) : Int) = (((ph[i] + 1) % b : Nat) : Int) := by omega
        simp only [hq', decide_false, Bool.not_false, wp, wx]
        rw [kFn_v (by simp)]
        refine ⟨?_, rfl⟩
        rw [bad _ (by rw [g1, g2]; simp [hg, hq])]
    · simp only [hg, decide_false, Bool.not_false, if_true, wp, wx]
      rw [kFn_v (by simp)]
      refine ⟨?_, rfl⟩
      rw [bad _ (by simp [hg])]
  · obtain ⟨rfl, hA, x5, rfl⟩ := J
    rw [List.take_length] at hA
    simp only [wp, wx]
    rw [kFn_v (by simp), hA]
    exact ⟨rfl, rfl⟩
theorem ints_of_whole : ∀ {xs : List D}, xs.all wholeB = true → ∃ ns : List Int, xs = ns.map D.int
  | [], _ => ⟨[], rfl⟩
  | d :: xs, h => by
    rw [List.all_cons, Bool.and_eq_true] at h
    obtain ⟨ns, rfl⟩ := ints_of_whole h.2
    cases d with
    | int i => exact ⟨i :: ns, rfl⟩
    | _ => cases h.1
theorem isbeat_eq {W : List (List Nat)} {l : Nat} (hW : Mach W l) (hb : W.length ≤ 900) {d : D} {M : Mem} (h : kn M d) : m_is_beat [tM W, d] M = some (.v (.bl (btB W d)), M) := by
  refine wo_eq ?_
  unfold m_is_beat
  have lo : ∀ b : Bool, (D.bl b).lo M.length := by simp
  have bad : (¬ ∃ P b ph, d = btD P b ph ∧ IsBt W P b ph) → kFn M (kIs (.bl (btB W d)) M) (.rt (.v (.bl false)) M) := fun hn => by
    rw [kFn_v (lo _)]
    exact ⟨by rw [btB_false hn], rfl⟩
  simp only [wp, wx, wf, Nat.reduceSub, isi_tup h]
  cases ht : isTupB d with
  | false =>
    simp only [wp, wx]
    exact bad (by rintro ⟨P, b, ph, rfl, _⟩; cases ht)
  | true =>
    obtain ⟨xs, rfl⟩ : ∃ xs, d = .tup xs := by cases d <;> first | exact ⟨_, rfl⟩ | cases ht
    simp only [wp, wx, len_tup, ne_int]
    by_cases h3 : xs.length = 3
    · have h3' : ((xs.length : Nat) : Int) = 3 := by omega
      simp only [h3', decide_true, wp, wx]
      match xs, h3 with
      | [p, b, f], _ =>
        have kx := kn_tup h
        have i0 : ∀ M : Mem, ixF (.v (.tup [p, b, f])) (.v (.int 0)) M = some (.v p, M) := fun M => by simp [ixF, seqOf, atI, ixN]
        have i1 : ∀ M : Mem, ixF (.v (.tup [p, b, f])) (.v (.int 1)) M = some (.v b, M) := fun M => by simp [ixF, seqOf, atI, ixN]
        simp only [wp, wx, i0, set_eq W (kx p (by simp))]
        cases hs : setB W.length p with
        | false =>
          simp only [wp, wx]
          refine bad ?_
          rintro ⟨P, b', ph, e, B⟩
          injection e with e; injection e with e _; subst e
          rw [setB_iff.mpr ⟨P, rfl, B.rs, B.ne⟩] at hs
          cases hs
        | true =>
          obtain ⟨P, rfl, hP, hne⟩ := setB_iff.mp hs
          simp only [wp, wx, i1, whole_eq (kx b (by simp))]
          cases hw : wholeB b with
          | false =>
            simp only [wp, wx]
            refine bad ?_
            rintro ⟨P', b', ph, e, B⟩
            injection e with e; injection e with _ e; injection e with e _; subst e
            cases hw
          | true =>
            obtain ⟨bi, rfl⟩ : ∃ i, b = .int i := by cases b <;> first | exact ⟨_, rfl⟩ | cases hw
            simp only [wp, wx, isi_tup (kx f (by simp))]
            cases hft : isTupB f with
            | false =>
              simp only [wp, wx]
              refine bad ?_
              rintro ⟨P', b', ph, e, B⟩
              injection e with e; injection e with _ e; injection e with _ e; injection e with e _; subst e
              cases hft
            | true =>
              obtain ⟨fs, rfl⟩ : ∃ xs, f = .tup xs := by cases f <;> first | exact ⟨_, rfl⟩ | cases hft
              simp only [wp, wx, len_tup, len_tN, ne_int, Int.ofNat_inj]
              by_cases hl : fs.length = P.length
              · simp only [hl, decide_true, wp, wx, src_tup]
                refine wc_mapD (fun x => .bl (wholeB x)) fs (fun x hx => ?_) ?_
                · simp only [wp, wx, w_is_beat_E2, whole_eq (kn_tup (kx (.tup fs) (by simp)) x hx)]
                  exact ⟨rfl, rfl⟩
                simp only [wp, wx, all_map]
                cases hall : fs.all wholeB with
                | false =>
                  simp only [wp, wx]
                  refine bad ?_
                  rintro ⟨P', b', ph, e, B⟩
                  injection e with e; injection e with _ e; injection e with _ e; injection e with e _
                  injection e with e; subst e
                  simp [wholeB] at hall
                | true =>
                  obtain ⟨ns, rfl⟩ := ints_of_whole hall
                  have hnl : ns.length = P.length := by simpa using hl
                  have hPl := hP.len
                  have hP0 : 0 < P.length := List.length_pos_iff.mpr hne
                  have hnn : ns ≠ [] := fun z => by rw [z] at hnl; simp at hnl; omega
                  have hsq : seqOf (.v (.tup (ns.map D.int))) M = some (ns.map D.int) := by simp [seqOf]
                  have hln : lnuF (.v (.tup (ns.map D.int))) M = some (.v (.int (((sortU ns).length : Nat) : Int)), M) := by
                    simp only [lnuF, hsq, Option.bind_some, intsOf_map]
                    rw [if_pos (by omega)]
                  obtain ⟨a, ha, ha2, ha3⟩ := min1_of ordd_int hnn hsq
                  obtain ⟨c, hc, hc2, hc3⟩ := max1_of ordd_int hnn hsq
                  have key := cov_iff (bi := bi) ha ha2 hc hc2
                  have no : ¬ ((((sortU ns).length : Nat) : Int) = bi ∧ a = 0 ∧ c = bi - 1) → ¬ ∃ P' b ph, D.tup [tN P, D.int bi, D.tup (ns.map D.int)] = btD P' b ph ∧ IsBt W P' b ph := fun hno => by
                    rintro ⟨P', b', ph, e, B⟩
                    injection e with e; injection e with e1 e; injection e with e2 e; injection e with e _
                    injection e with e
                    injection e2 with e2
                    refine hno (key.mpr ⟨b', ph, e2, ?_, B.cov⟩)
                    have : ns.map D.int = (ph.map fun (n : Nat) => (n : Int)).map D.int := by rw [e]; simp [nats]
                    have h5 := intsOf_map ns
                    rw [this, intsOf_map] at h5
                    injection h5 with h5
                    exact h5.symm
                  simp only [wp, wx, hln, ne_int]
                  by_cases t1 : (((sortU ns).length : Nat) : Int) = bi
                  · simp only [t1, decide_true, wp, wx, ha3, ne_int]
                    by_cases t2 : a = 0
                    · simp only [t2, decide_true, wp, wx, hc3, sub_int, ne_int]
                      by_cases t3 : c = bi - 1
                      · simp only [t3, decide_true, wp, wx, len_tN]
                        obtain ⟨b, ph, rfl, rfl, hcov⟩ := key.mp ⟨t1, t2, t3⟩
                        have hpl : ph.length = P.length := by simpa using hnl
                        have hb0 : 0 < b := by
                          obtain ⟨v, hv⟩ := List.exists_mem_of_length_pos (show 0 < ph.length by omega)
                          have := (hcov v).mp hv; omega
                        have etN : D.tup ((ph.map fun (n : Nat) => (n : Int)).map D.int) = tN ph := by simp [tN, nats]
                        refine ⟨rg_nat (by omega), ?_⟩
                        rw [Int.toNat_natCast, upto_nats, etN]
                        refine wc_map (fun (r : Nat) => D.int (r : Int)) (fun i => .bl ((W.getD (P.getD i 0) []).all fun g => decide (g ∈ P) && decide (ph.getD (P.idxOf g) 0 = (ph.getD i 0 + 1) % b))) (List.range P.length) (fun i hi => ?_) ?_
                        · simp only [wp, wx, w_is_beat_E1, keeps_w hW hP.lt hpl hb0 (List.mem_range.mp hi)]
                          exact ⟨rfl, rfl⟩
                        · simp only [wp, wx, all_map]
                          rw [kFn_v (lo _)]
                          refine ⟨?_, rfl⟩
                          congr 2
                          rw [Bool.eq_iff_iff, btB_iff, List.all_eq_true]
                          constructor
                          · intro hk
                            refine ⟨P, b, ph, rfl, hP, hne, hpl, hcov, fun i hi g hg => ?_⟩
                            have := List.all_eq_true.mp (hk i (List.mem_range.mpr hi)) g hg
                            simpa using this
                          · rintro ⟨P', b', ph', e, B⟩ i hi
                            injection e with e; injection e with e1 e; injection e with e2 e; injection e with e _
                            injection e2 with e2
                            have h1 := tN_injB e1
                            have h2 := Int.ofNat_inj.mp e2
                            have h3 := tN_injB e
                            subst h1 h2 h3
                            rw [List.all_eq_true]
                            intro g hg
                            have := B.keep i (List.mem_range.mp hi) g hg
                            simpa using this
                      · simp only [t3, decide_false, wp, wx]
                        exact bad (no fun z => t3 z.2.2)
                    · simp only [t2, decide_false, wp, wx]
                      exact bad (no fun z => t2 z.2.1)
                  · simp only [t1, decide_false, wp, wx]
                    exact bad (no fun z => t1 z.1)
              · simp only [hl, decide_false, wp, wx]
                refine bad ?_
                rintro ⟨P', b', ph, e, B⟩
                injection e with e; injection e with e1 e; injection e with _ e; injection e with e _
                injection e with e; subst e
                have := tN_injB e1
                subst this
                exact hl (by simpa [nats] using B.len)
    · have h3' : ¬ ((xs.length : Nat) : Int) = 3 := by omega
      simp only [h3', decide_false, wp, wx]
      refine bad ?_
      rintro ⟨P', b', ph, e, B⟩
      injection e with e; subst e
      exact h3 rfl
def trD (t : List Nat × Nat × List Nat) : D := btD t.1 t.2.1 t.2.2
open Classical in
noncomputable def shbB (W : List (List Nat)) (d : D) : Bool := decide (∃ T : List (List Nat × Nat × List Nat), d = .tup (T.map trD) ∧ (∀ t ∈ T, IsBt W t.1 t.2.1 t.2.2) ∧ (T.flatMap fun t => t.1).Nodup)
open Classical in
theorem shbB_iff {W : List (List Nat)} {d : D} : shbB W d = true ↔ ∃ T : List (List Nat × Nat × List Nat), d = .tup (T.map trD) ∧ (∀ t ∈ T, IsBt W t.1 t.2.1 t.2.2) ∧ (T.flatMap fun t => t.1).Nodup := by unfold shbB; exact decide_eq_true_iff
theorem trD_inj {a b : List Nat × Nat × List Nat} (h : trD a = trD b) : a = b := by
  obtain ⟨a1, a2, a3⟩ := a
  obtain ⟨b1, b2, b3⟩ := b
  unfold trD btD at h
  injection h with e; injection e with e1 e; injection e with e2 e; injection e with e _
  injection e2 with e2
  have h1 := tN_injB e1
  have h2 := Int.ofNat_inj.mp e2
  have h3 := tN_injB e
  simp only at h1 h2 h3
  rw [h1, h2, h3]
theorem trDs_inj : ∀ {a b : List (List Nat × Nat × List Nat)}, a.map trD = b.map trD → a = b
  | [], [], _ => rfl
  | [], _ :: _, h => by simp at h
  | _ :: _, [], h => by simp at h
  | x :: a, y :: b, h => by
    simp only [List.map_cons] at h
    injection h with h1 h2
    rw [trD_inj h1, trDs_inj h2]
theorem lns_ref {v : List Nat} (h : v.length ≤ 1000) {q : Nat} {M : Mem} (hq : M[q]? = some (.lst (nats v))) : lnsF (.v (.ref q)) M = some (.v (.int (((sortN v).length : Nat) : Int)), M) := by
  have e : nats v = (v.map fun (n : Nat) => (n : Int)).map D.int := by simp
  unfold lnsF
  simp only [lstOf, hq, Option.bind_some]
  rw [e, intsOf_map]
  simp only [Option.bind_some, List.length_map, if_pos h, dcnt_nat]
theorem sortN_len_iff (v : List Nat) : (sortN v).length = v.length ↔ v.Nodup := by
  have hnd : (sortN v).Nodup := (sortN_rise v).imp fun h => by omega
  constructor
  · intro h
    have : ∀ (a b : List Nat), a.Nodup → (∀ x ∈ a, x ∈ b) → a.length = b.length → b.Nodup := by
      intro a
      induction a with
      | nil => intro b _ _ h; rw [List.eq_nil_of_length_eq_zero h.symm]; exact List.nodup_nil
      | cons x a ih =>
        intro b hn hs hl
        obtain ⟨h1, h2⟩ := List.nodup_cons.mp hn
        obtain ⟨u, v, rfl⟩ := List.append_of_mem (hs x List.mem_cons_self)
        have hsub : ∀ y ∈ a, y ∈ u ++ v := fun y hy => by
          have := hs y (List.mem_cons_of_mem _ hy)
          simp only [List.mem_append, List.mem_cons] at this ⊢
          rcases this with z | z | z
          · exact .inl z
          · subst z; exact absurd hy h1
          · exact .inr z
        have hb := ih (u ++ v) h2 hsub (by simp at hl ⊢; omega)
        have hx : x ∉ u ++ v := fun z => by
          have := nodup_lenN (U := (u ++ v).eraseP (fun y => decide (y = x))) h2 fun y hy => by
            have hyx : y ≠ x := fun e => h1 (e ▸ hy)
            rw [List.mem_eraseP_of_neg (by simpa using hyx)]
            exact hsub y hy
          rw [List.length_eraseP_of_mem z (by simp)] at this
          have h0 : 0 < (u ++ v).length := List.length_pos_of_mem z
          simp at hl this h0
          omega
        exact (List.perm_middle.nodup_iff).mpr (List.nodup_cons.mpr ⟨hx, hb⟩)
    exact this (sortN v) v hnd (fun x hx => (sortN_mem _ _).mp hx) h
  · intro h
    exact ((List.perm_ext_iff_of_nodup hnd h).mpr fun x => sortN_mem _ _).length_eq
theorem showsbeats_eq {W : List (List Nat)} {l : Nat} (hW : Mach W l) (hb : W.length ≤ 30) {d : D} {M : Mem} (h : kn M d) (hz : lenD d ≤ 30) : m_shows_beats [tM W, d] M = some (.v (.bl (shbB W d)), M) := by
  refine wo_eq ?_
  unfold m_shows_beats
  have lo : ∀ b : Bool, (D.bl b).lo M.length := by simp
  have bad : (¬ ∃ T : List (List Nat × Nat × List Nat), d = .tup (T.map trD) ∧ (∀ t ∈ T, IsBt W t.1 t.2.1 t.2.2) ∧ (T.flatMap fun t => t.1).Nodup) → kFn M (kIs (.bl (shbB W d)) M) (.rt (.v (.bl false)) M) := fun hn => by
    rw [kFn_v (lo _)]
    have : shbB W d = false := by rw [Bool.eq_false_iff]; exact fun z => hn (shbB_iff.mp z)
    exact ⟨by rw [this], rfl⟩
  simp only [wp, wx, wf, Nat.reduceSub, isi_tup h]
  cases ht : isTupB d with
  | false =>
    simp only [wp, wx]
    exact bad (by rintro ⟨T, rfl, _⟩; cases ht)
  | true =>
    obtain ⟨xs, rfl⟩ : ∃ xs, d = .tup xs := by cases d <;> first | exact ⟨_, rfl⟩ | cases ht
    simp only [wp, wx, src_tup]
    refine wc_mapD (fun x => .bl (btB W x)) xs (fun x hx => ?_) ?_
    · simp only [wp, wx, w_shows_beats_E1, isbeat_eq hW (show W.length ≤ 900 by omega) (kn_tup h x hx)]
      exact ⟨rfl, rfl⟩
    simp only [wp, wx, all_map]
    cases hall : xs.all (btB W) with
    | false =>
      simp only [wp, wx]
      refine bad ?_
      rintro ⟨T, e, hT, _⟩
      injection e with e
      subst e
      have : (T.map trD).all (btB W) = true := by
        rw [List.all_eq_true]
        intro x hx
        obtain ⟨t, ht, rfl⟩ := List.mem_map.mp hx
        exact btB_true (hT t ht)
      rw [this] at hall
      cases hall
    | true =>
      have hex : ∃ T : List (List Nat × Nat × List Nat), xs = T.map trD ∧ ∀ t ∈ T, IsBt W t.1 t.2.1 t.2.2 := by
        clear hz bad ht h
        induction xs with
        | nil => exact ⟨[], rfl, by simp⟩
        | cons x xs ih =>
          rw [List.all_cons, Bool.and_eq_true] at hall
          obtain ⟨T, rfl, hT⟩ := ih hall.2
          obtain ⟨P, b, ph, rfl, B⟩ := btB_iff.mp hall.1
          exact ⟨(P, b, ph) :: T, rfl, fun t ht => by
            rcases List.mem_cons.mp ht with rfl | ht
            · exact B
            · exact hT t ht⟩
      obtain ⟨T, rfl, hT⟩ := hex
      have hTl : T.length ≤ 30 := by simpa [lenD] using hz
      have hfl : ∀ n, ((T.take n).flatMap fun t => t.1).length ≤ n * 30 := fun n => by
        induction n with
        | zero => simp
        | succ n ih =>
          by_cases hn : n < T.length
          · rw [List.take_add_one, List.getElem?_eq_getElem hn, Option.toList_some, List.flatMap_append, List.length_append]
            have := (hT T[n] (List.getElem_mem hn)).rs.len
            simp at *
            omega
          · rw [List.take_of_length_le (by omega)] at ih ⊢
            omega
      have hge : ∀ o : Ob, (M ++ [o])[M.length]? = some o := fun o => get_end rfl
      simp only [wp, wx, src_tup]
      refine wl_typ trD T (fun i ρ M' => M' = M ++ [.lst (nats ((T.take i).flatMap fun t => t.1))] ∧ ∃ x3 x4 x5 x6, ρ = [some (tM W), some (.tup (T.map trD)), some (.ref M.length), x3, x4, x5, x6]) ⟨rfl, _, _, _, _, rfl⟩ (fun i hi ρ M' J => ?_) (fun ρ M' J => ?_)
      · obtain ⟨rfl, x3, x4, x5, x6, rfl⟩ := J
        have hfi := hfl i
        have hli := (hT T[i] (List.getElem_mem hi)).rs.len
        have hff : fits ((nats ((T.take i).flatMap fun t => t.1)).length + (nats T[i].1).length) := fits_of (by simp only [nats, List.length_map]; omega)
        have eE : extTF (.v (.ref M.length)) (.v (tN T[i].1)) (M ++ [.lst (nats ((T.take i).flatMap fun t => t.1))]) = some (.v .non, M ++ [.lst (nats ((T.take (i + 1)).flatMap fun t => t.1))]) := by
          simp only [extTF, tN, hge, if_pos hff]
          rw [set_end rfl, List.take_add_one, List.getElem?_eq_getElem hi, Option.toList_some, List.flatMap_append]
          simp [nats]
        simp only [trD, btD, wp, wx, w_shows_beats_F1, isT_ref (hge _), eE]
        exact ⟨_, _, _, _, rfl⟩
      · obtain ⟨rfl, x3, x4, x5, x6, rfl⟩ := J
        rw [List.take_length]
        have hF := hfl T.length
        rw [List.take_length] at hF
        simp only [wp, wx, lns_ref (show (T.flatMap fun t => t.1).length ≤ 1000 by omega) (hge _), len_ref (hge _), eq_int]
        rw [kFn_va (lo _)]
        refine ⟨?_, rfl⟩
        congr 2
        rw [Bool.eq_iff_iff, shbB_iff, decide_eq_true_iff]
        have e2 : (nats (T.flatMap fun t => t.1)).length = (T.flatMap fun t => t.1).length := by simp [nats]
        rw [e2, Int.ofNat_inj, sortN_len_iff]
        constructor
        · exact fun z => ⟨T, rfl, hT, z⟩
        · rintro ⟨T', e, _, z⟩
          injection e with e
          rw [trDs_inj e]; exact z
/-! ### the told beats are beats -/
noncomputable def btOf (W : List (List Nat)) (p : List Nat) : Nat := btN W (sN (stepsN W (p.headD 0))) p
noncomputable def phOf (W : List (List Nat)) (p : List Nat) : List Nat := p.map fun y => sN (stepsN W (p.headD 0)) y % btOf W p
theorem bD_eq (W : List (List Nat)) (p : List Nat) : bD W p = btD p (btOf W p) (phOf W p) := rfl
section
variable {W : List (List Nat)} {l : Nat}
theorem row_stp (hW : Mach W l) {u : Nat} (hu : u < W.length) {g : Nat} : g ∈ W.getD u [] ↔ ∃ a, a < l ∧ stp W u a = g := by
  constructor
  · intro hg; exact (row_ways hW hu g hg).2
  · rintro ⟨a, ha, rfl⟩
    rw [show W.getD u [] = W[u] by simp [List.getD, hu], stp_eq hW hu ha]
    exact List.getElem_mem _
theorem part_rs {p : List Nat} (h : p ∈ cpN W l W.length) : RSet W.length p ∧ p ≠ [] := by
  obtain ⟨p0, pt, rfl, hx, e⟩ := cp_head h
  refine ⟨?_, by simp⟩
  rw [e]
  exact ⟨rchS_lt W l p0, fun r hr => (rchS_mem.mp hr).1⟩
theorem part_bt (hW : Mach W l) (hl : 0 < l) {p : List Nat} (h : p ∈ cpN W l W.length) : IsBt W p (btOf W p) (phOf W p) := by
  obtain ⟨p0, pt, e0, hx, e⟩ := cp_head h
  have hh : p.headD 0 = p0 := by rw [e0]; rfl
  have hb0 : 0 < btOf W p := by
    unfold btOf; rw [hh, e]; exact beat_pos hW hl hx
  have hdv : btOf W p ∣ btN W (sN (stepsN W p0)) (rchS W l p0) := by
    unfold btOf; rw [hh, ← e]; exact Nat.dvd_refl _
  have hph : ∀ y ∈ p, (phOf W p).getD (p.idxOf y) 0 = sN (stepsN W p0) y % btOf W p := fun y hy => by
    have hi := List.idxOf_lt_length_of_mem hy
    unfold phOf
    rw [hh, List.getD, List.getElem?_map, List.getElem?_eq_getElem hi, Option.map_some, Option.getD_some, List.getElem_idxOf hi]
  refine ⟨(part_rs h).1, (part_rs h).2, by simp [phOf], fun v => ⟨fun hv => ?_, fun hv => ?_⟩, fun i hi g hg => ?_⟩
  · obtain ⟨y, _, rfl⟩ := List.mem_map.mp hv
    exact Nat.mod_lt _ hb0
  · have hm : rW W p0 v ∈ p := by rw [e]; exact rchS_mem.mpr ⟨rW_lt hW hl hx v, rW_rch hl p0 v⟩
    have := walk_mod hW hl hx hb0 hdv v
    rw [Nat.mod_eq_of_lt hv] at this
    refine List.mem_map.mpr ⟨rW W p0 v, hm, ?_⟩
    rw [hh]; exact this
  · have ei : p.getD i 0 = p[i] := by simp [List.getD, hi]
    rw [ei] at hg
    have hpi : p[i] ∈ p := List.getElem_mem hi
    have hpi' : p[i] ∈ rchS W l p0 := by rw [← e]; exact hpi
    have hlt := (rchS_mem.mp hpi').1
    obtain ⟨a, ha, hga⟩ := (row_stp hW hlt).mp hg
    have hgp : g ∈ p := by
      rw [e, rchS_mem, ← hga]
      exact ⟨stp_lt hW hlt ha, (rchS_mem.mp hpi').2.step ha⟩
    refine ⟨hgp, ?_⟩
    rw [hph g hgp]
    have h1 := (btN_dvd _ _ _).mp hdv p[i] hpi' g hg
    rw [dif_mod hb0] at h1
    have h2 : (phOf W p).getD i 0 = sN (stepsN W p0) p[i] % btOf W p := by
      unfold phOf
      rw [hh, List.getD, List.getElem?_map, List.getElem?_eq_getElem hi, Option.map_some, Option.getD_some]
    rw [h2, ← h1]
    simp
/-- two closed parts with a room in common are one -/
theorem part_same {p q : List Nat} (hp : p ∈ cpN W l W.length) (hq : q ∈ cpN W l W.length) {y : Nat} (h1 : y ∈ p) (h2 : y ∈ q) : p = q := by
  have key : ∀ {p : List Nat}, p ∈ cpN W l W.length → y ∈ p → p = rchS W l y := fun {p} hp hy => by
    obtain ⟨x, hx, e, hc⟩ := cp_closed _ p hp
    have hxy := (rchS_mem.mp (hc y hy)).2
    rw [e] at hy
    have hyx := (rchS_mem.mp hy).2
    rw [e]
    unfold rchS
    refine List.filter_congr fun z _ => ?_
    rw [Bool.eq_iff_iff]
    simp only [decide_eq_true_eq]
    exact ⟨fun h => hxy.trans h, fun h => hyx.trans h⟩
  rw [key hp h1, key hq h2]
theorem cpN_nd (W : List (List Nat)) (l : Nat) : ∀ i, (cpN W l i).Nodup
  | 0 => by simp [cpN]
  | i + 1 => by
    unfold cpN
    split
    · rename_i h
      rw [List.nodup_append]
      exact ⟨cpN_nd W l i, by simp, fun a ha b hb => by simp at hb; subst hb; exact fun z => h.1 (z ▸ ha)⟩
    · exact cpN_nd W l i
theorem cpN_has : ∀ (n i : Nat), i < n → (∀ y ∈ rchS W l i, i ∈ rchS W l y) → rchS W l i ∈ cpN W l n
  | 0, i, h, _ => by omega
  | n + 1, i, h, hc => by
    unfold cpN
    by_cases hi : i = n
    · subst hi
      split
      · simp
      · rename_i hn
        exact Classical.byContradiction fun z => hn ⟨z, hc⟩
    · have := cpN_has n i (by omega) hc
      split
      · exact List.mem_append_left _ this
      · exact this
theorem cp_ne (h0 : 0 < W.length) : cpN W l W.length ≠ [] := by
  have : ∀ k x, x < W.length → (rchS W l x).length ≤ k → ∃ y, y < W.length ∧ ∀ z ∈ rchS W l y, y ∈ rchS W l z := by
    intro k
    induction k with
    | zero =>
      intro x hx hk
      have : x ∈ rchS W l x := rchS_mem.mpr ⟨hx, Rch.refl x⟩
      have := List.length_pos_of_mem this
      omega
    | succ k ih =>
      intro x hx hk
      by_cases hc : ∀ z ∈ rchS W l x, x ∈ rchS W l z
      · exact ⟨x, hx, hc⟩
      · simp only [Classical.not_forall] at hc
        obtain ⟨z, hz, hn⟩ := hc
        have hz' := rchS_mem.mp hz
        refine ih z hz'.1 ?_
        have hxn : (x :: rchS W l z).Nodup := List.nodup_cons.mpr ⟨hn, rchS_nd W l z⟩
        have := nodup_lenN hxn (U := rchS W l x) fun y hy => by
          rcases List.mem_cons.mp hy with rfl | hy
          · exact rchS_mem.mpr ⟨hx, Rch.refl y⟩
          · have := rchS_mem.mp hy
            exact rchS_mem.mpr ⟨this.1, hz'.2.trans this.2⟩
        simp at this
        omega
  obtain ⟨y, hy, hc⟩ := this _ 0 h0 (Nat.le_refl _)
  exact List.ne_nil_of_mem (cpN_has W.length y hy hc)
end
/-- the sorted parts -/
structure PsI (W : List (List Nat)) (l : Nat) (Ps : List (List Nat)) : Prop where
  eq : ((cpN W l W.length).map tN).mergeSort leD = Ps.map tN
  mem : ∀ p ∈ Ps, p ∈ cpN W l W.length
  len : Ps.length ≤ W.length
  ne : 0 < W.length → Ps ≠ []
  nd : Ps.Nodup
theorem tN_map_inj : ∀ {a b : List (List Nat)}, a.map tN = b.map tN → a = b
  | [], [], _ => rfl
  | [], _ :: _, h => by simp at h
  | _ :: _, [], h => by simp at h
  | x :: a, y :: b, h => by
    simp only [List.map_cons] at h
    injection h with h1 h2
    rw [tN_injB h1, tN_map_inj h2]
theorem nodup_map_tN {P : List (List Nat)} : (P.map tN).Nodup ↔ P.Nodup := by
  rw [List.Nodup, List.pairwise_map]
  exact ⟨fun h => h.imp fun {a b} h (e : a = b) => h (by rw [e]), fun h => h.imp fun {a b} h (e : tN a = tN b) => h (tN_injB e)⟩
theorem ps_ex (W : List (List Nat)) (l : Nat) : ∃ Ps, PsI W l Ps := by
  obtain ⟨Ps, h1, h2⟩ := tNs_of (ds := ((cpN W l W.length).map tN).mergeSort leD) (P := cpN W l W.length) fun d hd => (List.mergeSort_perm _ _).mem_iff.mp hd
  have hl := congrArg List.length h1
  rw [(List.mergeSort_perm _ _).length_eq] at hl
  simp at hl
  refine ⟨Ps, h1, h2, ?_, fun h0 => ?_, ?_⟩
  · have := cpN_len W l W.length
    omega
  · intro z
    have := cp_ne (l := l) h0
    rw [z] at hl
    exact this (List.eq_nil_of_length_eq_zero hl)
  · rw [← nodup_map_tN, ← h1]
    exact (List.mergeSort_perm _ _).nodup_iff.mpr (nodup_map_tN.mpr (cpN_nd W l _))
theorem ps_flat {W : List (List Nat)} {l : Nat} {Ps : List (List Nat)} (I : PsI W l Ps) : (Ps.flatMap fun p => p).Nodup := by
  have hn := I.nd
  have hm := I.mem
  clear I
  induction Ps with
  | nil => simp
  | cons p Ps ih =>
    obtain ⟨h1, h2⟩ := List.nodup_cons.mp hn
    rw [List.flatMap_cons, List.nodup_append]
    refine ⟨?_, ih h2 fun q hq => hm q (List.mem_cons_of_mem _ hq), fun a ha b hb e => ?_⟩
    · exact (part_rs (hm p List.mem_cons_self)).1.rise.imp fun h => by omega
    · subst e
      obtain ⟨q, hq, haq⟩ := List.mem_flatMap.mp hb
      have := part_same (hm p List.mem_cons_self) (hm q (List.mem_cons_of_mem _ hq)) ha haq
      exact h1 (this ▸ hq)
/-! ### letters on the ways -/
structure Lett (W m : List (List Nat)) (l : Nat) : Prop where
  mm : Mach m l
  len : m.length = W.length
  row : ∀ r, r < W.length → ∀ a, a < l → stp m r a ∈ W.getD r []
section
variable {W m : List (List Nat)} {l : Nat}
theorem bt_led (L : Lett W m l) {P : List Nat} {b : Nat} {ph : List Nat} (B : IsBt W P b ph) : ∀ {w : List Nat}, (∀ a ∈ w, a < l) → ∀ {r : Nat}, r ∈ P → ledN m r w ∈ P ∧ ph.getD (P.idxOf (ledN m r w)) 0 = (ph.getD (P.idxOf r) 0 + w.length) % b
  | [], _, r, hr => by
    have hi := List.idxOf_lt_length_of_mem hr
    have : ph.getD (P.idxOf r) 0 < b := by
      rw [← B.cov]
      have : P.idxOf r < ph.length := by rw [B.len]; exact hi
      rw [show ph.getD (P.idxOf r) 0 = ph[P.idxOf r] by simp [List.getD, this]]
      exact List.getElem_mem _
    exact ⟨hr, by show ph.getD (P.idxOf r) 0 = _; rw [List.length_nil, Nat.add_zero, Nat.mod_eq_of_lt this]⟩
  | a :: w, hw, r, hr => by
    have hi := List.idxOf_lt_length_of_mem hr
    have e : P.getD (P.idxOf r) 0 = r := by simp [List.getD, hi]
    have h1 := B.keep _ hi (stp m r a) (by rw [e]; exact L.row r (B.rs.lt r hr) a (hw a List.mem_cons_self))
    obtain ⟨h2, h3⟩ := bt_led L B (fun x hx => hw x (List.mem_cons_of_mem _ hx)) h1.1 (w := w)
    refine ⟨h2, ?_⟩
    show ph.getD (P.idxOf (ledN m (stp m r a) w)) 0 = _
    rw [h3, h1.2, List.length_cons, Nat.mod_add_mod]
    congr 1
    omega
theorem brought_mem (hm : Mach m l) {S : List Nat} (hS : RSet m.length S) : ∀ {w : List Nat}, (∀ a ∈ w, a < l) → ∀ y, y ∈ broughtN m S w ↔ ∃ r ∈ S, ledN m r w = y := by
  intro w
  induction w generalizing S with
  | nil => intro _ y; simp [broughtN, ledN]
  | cons a w ih =>
    intro hw y
    have ha := hw a List.mem_cons_self
    have := ih (stepN_set hm hS ha) (fun x hx => hw x (List.mem_cons_of_mem _ hx)) y
    show y ∈ broughtN m (stepN m S a) w ↔ _
    rw [this]
    constructor
    · rintro ⟨r, hr, e⟩
      rw [stepN, sortN_mem] at hr
      obtain ⟨q, hq, rfl⟩ := List.mem_map.mp hr
      exact ⟨q, hq, e⟩
    · rintro ⟨r, hr, e⟩
      exact ⟨stp m r a, by rw [stepN, sortN_mem]; exact List.mem_map.mpr ⟨r, hr, rfl⟩, e⟩
theorem brought_rs (hm : Mach m l) : ∀ {w S : List Nat}, RSet m.length S → (∀ a ∈ w, a < l) → RSet m.length (broughtN m S w)
  | [], S, hS, _ => hS
  | a :: w, S, hS, hw => brought_rs hm (w := w) (stepN_set hm hS (hw a List.mem_cons_self)) fun x hx => hw x (List.mem_cons_of_mem _ hx)
/-- a word leaves no fewer rooms of a part than its beat -/
theorem bt_many (L : Lett W m l) {P : List Nat} {b : Nat} {ph : List Nat} (B : IsBt W P b ph) {w : List Nat} (hw : ∀ a ∈ w, a < l) : ∃ F : List Nat, F.Nodup ∧ F.length = b ∧ ∀ y ∈ F, y ∈ P ∧ y ∈ broughtN m P w := by
  have hS : RSet m.length P := ⟨B.rs.rise, fun r hr => by rw [L.len]; exact B.rs.lt r hr⟩
  have hb0 : 0 < b := by
    obtain ⟨x, hx⟩ := List.exists_mem_of_ne_nil P B.ne
    have : 0 < ph.length := by rw [B.len]; exact List.length_pos_of_mem hx
    obtain ⟨v, hv⟩ := List.exists_mem_of_length_pos this
    have := (B.cov v).mp hv
    omega
  -- for each phase a room whose goal has it
  have hex : ∀ v, v < b → ∃ y, y ∈ P ∧ y ∈ broughtN m P w ∧ ph.getD (P.idxOf y) 0 = v := fun v hv => by
    have hv2 : (v + (b - 1) * w.length) % b < b := Nat.mod_lt _ hb0
    have hm := (B.cov _).mpr hv2
    obtain ⟨i, hi, e⟩ := List.getElem_of_mem hm
    have hi2 : i < P.length := by rw [← B.len]; exact hi
    have hnd : P.Nodup := B.rs.rise.imp fun h => by omega
    have hid : P.idxOf P[i] = i := hnd.idxOf_getElem i hi2
    obtain ⟨h1, h2⟩ := bt_led L B hw (r := P[i]) (List.getElem_mem hi2)
    refine ⟨_, h1, (brought_mem L.mm hS hw _).mpr ⟨P[i], List.getElem_mem hi2, rfl⟩, ?_⟩
    rw [h2, hid, show ph.getD i 0 = ph[i] by simp [List.getD, hi], e, Nat.mod_add_mod]
    have : v + (b - 1) * w.length + w.length = v + b * w.length := by
      have : (b - 1) * w.length + w.length = b * w.length := by
        rw [← Nat.succ_mul]; congr 1; omega
      omega
    rw [this, Nat.add_mul_mod_self_left, Nat.mod_eq_of_lt hv]
  have hF : ∀ n, n ≤ b → ∃ F : List Nat, F.Nodup ∧ F.length = n ∧ ∀ y ∈ F, y ∈ P ∧ y ∈ broughtN m P w ∧ ph.getD (P.idxOf y) 0 < n := by
    intro n
    induction n with
    | zero => intro _; exact ⟨[], by simp, rfl, by simp⟩
    | succ n ih =>
      intro hn
      obtain ⟨F, h1, h2, h3⟩ := ih (by omega)
      obtain ⟨y, hy1, hy2, hy3⟩ := hex n (by omega)
      refine ⟨y :: F, List.nodup_cons.mpr ⟨fun z => ?_, h1⟩, by simp [h2], fun x hx => ?_⟩
      · have := (h3 y z).2.2; omega
      · rcases List.mem_cons.mp hx with rfl | hx
        · exact ⟨hy1, hy2, by omega⟩
        · have := h3 x hx; exact ⟨this.1, this.2.1, by omega⟩
  obtain ⟨F, h1, h2, h3⟩ := hF b (Nat.le_refl _)
  exact ⟨F, h1, h2, fun y hy => ⟨(h3 y hy).1, (h3 y hy).2.1⟩⟩
theorem brought_mono (hm : Mach m l) {S T : List Nat} (hS : RSet m.length S) (hT : RSet m.length T) (h : ∀ x ∈ S, x ∈ T) {w : List Nat} (hw : ∀ a ∈ w, a < l) : ∀ y ∈ broughtN m S w, y ∈ broughtN m T w := fun y hy => by
  obtain ⟨r, hr, e⟩ := (brought_mem hm hS hw y).mp hy
  exact (brought_mem hm hT hw y).mpr ⟨r, h r hr, e⟩
theorem all_rs (n : Nat) : RSet n (List.range n) := ⟨List.pairwise_lt_range, fun r hr => List.mem_range.mp hr⟩
/-- a word leaves no fewer of all rooms than shown beats come to -/
theorem bts_many (L : Lett W m l) {T : List (List Nat × Nat × List Nat)} (hT : ∀ t ∈ T, IsBt W t.1 t.2.1 t.2.2) (hnd : (T.flatMap fun t => t.1).Nodup) {w : List Nat} (hw : ∀ a ∈ w, a < l) : (T.map fun t => t.2.1).sum ≤ (broughtN m (List.range m.length) w).length := by
  have : ∃ F : List Nat, F.Nodup ∧ F.length = (T.map fun t => t.2.1).sum ∧ ∀ y ∈ F, y ∈ (T.flatMap fun t => t.1) ∧ y ∈ broughtN m (List.range m.length) w := by
    induction T with
    | nil => exact ⟨[], by simp, rfl, by simp⟩
    | cons t T ih =>
      rw [List.flatMap_cons, List.nodup_append] at hnd
      obtain ⟨F, h1, h2, h3⟩ := ih (fun t ht => hT t (List.mem_cons_of_mem _ ht)) hnd.2.1
      have B := hT t List.mem_cons_self
      obtain ⟨G, g1, g2, g3⟩ := bt_many L B hw
      have hS : RSet m.length t.1 := ⟨B.rs.rise, fun r hr => by rw [L.len]; exact B.rs.lt r hr⟩
      refine ⟨G ++ F, ?_, by simp [h2, g2], fun y hy => ?_⟩
      · rw [List.nodup_append]
        exact ⟨g1, h1, fun x hx y hy => hnd.2.2 x (g3 x hx).1 y (h3 y hy).1⟩
      · rcases List.mem_append.mp hy with hy | hy
        · exact ⟨by rw [List.flatMap_cons]; exact List.mem_append_left _ (g3 y hy).1, brought_mono L.mm hS (all_rs _) (fun x hx => List.mem_range.mpr (hS.lt x hx)) hw y (g3 y hy).2⟩
        · exact ⟨by rw [List.flatMap_cons]; exact List.mem_append_right _ (h3 y hy).1, (h3 y hy).2⟩
  obtain ⟨F, h1, h2, h3⟩ := this
  rw [← h2]
  exact nodup_lenN h1 fun y hy => (h3 y hy).2
end
/-! ### rows of things of any kind, in memory -/
mutual
theorem kn_to {A B : Mem} (h1 : ∀ (q : Nat) (xs : List D), A[q]? = some (Ob.lst xs) → ∃ ys, B[q]? = some (Ob.lst ys)) (h2 : ∀ (q : Nat) (xs : List (D × D)), A[q]? = some (Ob.dct xs) → ∃ ys, B[q]? = some (Ob.dct ys)) : ∀ d : D, kn A d → kn B d
  | .non, _ => by simp
  | .bl _, _ => by simp
  | .int _, _ => by simp
  | .str _, _ => by simp
  | .fl _, _ => by rw [kn] <;> simp
  | .par _, h => by rw [kn] at h; exact absurd h id
  | .lam _ _, h => by rw [kn] at h; exact absurd h id
  | .ref n, h => by
    rw [kn] at h ⊢
    rcases h with ⟨xs, h⟩ | ⟨xs, h⟩
    · exact .inl (h1 n xs h)
    · exact .inr (h2 n xs h)
  | .tup xs, h => by
    rw [kn] at h ⊢
    exact knL_to h1 h2 xs h
theorem knL_to {A B : Mem} (h1 : ∀ (q : Nat) (xs : List D), A[q]? = some (Ob.lst xs) → ∃ ys, B[q]? = some (Ob.lst ys)) (h2 : ∀ (q : Nat) (xs : List (D × D)), A[q]? = some (Ob.dct xs) → ∃ ys, B[q]? = some (Ob.dct ys)) : ∀ ds : List D, knL A ds → knL B ds
  | [], _ => by simp
  | d :: ds, h => by
    rw [knL] at h ⊢
    exact ⟨kn_to h1 h2 d h.1, knL_to h1 h2 ds h.2⟩
end
/-- its kind is known by what lies from lo on -/
def knO (lo : Nat) (M : Mem) (d : D) : Prop := ∀ B : Mem, (∀ q : Nat, lo ≤ q → B[q]? = M[q]?) → kn B d
theorem knO.kn {lo : Nat} {M : Mem} {d : D} (h : knO lo M d) : kn M d := h M fun _ _ => rfl
theorem knO.same {lo : Nat} {M M2 : Mem} {d : D} (h : knO lo M d) (e : ∀ q : Nat, lo ≤ q → M2[q]? = M[q]?) : knO lo M2 d := fun B hB => h B fun q hq => (hB q hq).trans (e q hq)
theorem knO.app {lo : Nat} {M : Mem} {d : D} (h : knO lo M d) (e : Mem) : knO lo (M ++ e) d := fun B hB => by
  refine kn_to ?_ ?_ d (h (B.take M.length) fun q hq => ?_)
  · intro q xs hx
    rw [List.getElem?_take] at hx
    split at hx
    · exact ⟨xs, hx⟩
    · cases hx
  · intro q xs hx
    rw [List.getElem?_take] at hx
    split at hx
    · exact ⟨xs, hx⟩
    · cases hx
  · rw [List.getElem?_take]
    split
    · rename_i hl
      rw [hB q hq, List.getElem?_append_left hl]
    · rename_i hl
      exact (List.getElem?_eq_none (by omega)).symm
theorem knO.set {lo : Nat} {M : Mem} {d : D} (h : knO lo M d) {p : Nat} {xs : List D} (hp : M[p]? = some (.lst xs)) (hlo : lo ≤ p) (ys : List D) : knO lo (M.set p (.lst ys)) d := fun B hB => by
  have hpl := get_lt hp
  have hBp : B[p]? = some (.lst ys) := by rw [hB p hlo, List.getElem?_set_self hpl]
  refine kn_to ?_ ?_ d (h (B.set p (.lst xs)) fun q hq => ?_)
  · intro q zs hx
    by_cases e : p = q
    · subst e; exact ⟨ys, hBp⟩
    · rw [List.getElem?_set_ne e] at hx; exact ⟨zs, hx⟩
  · intro q zs hx
    by_cases e : p = q
    · subst e
      rw [List.getElem?_set_self (get_lt hBp)] at hx; cases hx
    · rw [List.getElem?_set_ne e] at hx; exact ⟨zs, hx⟩
  · by_cases e : p = q
    · subst e
      rw [List.getElem?_set_self (get_lt hBp), hp]
    · rw [List.getElem?_set_ne e, hB q hq, List.getElem?_set_ne e]
theorem knO_tN (lo : Nat) (M : Mem) (w : List Nat) : knO lo M (tN w) := fun B _ => by simp
structure Rw (lo Bd : Nat) (M : Mem) (p : Nat) : Prop where
  ex : ∃ xs, M[p]? = some (.lst xs) ∧ xs.length ≤ Bd ∧ ∀ x ∈ xs, knO lo M x ∧ lenD x ≤ 90000
  lo : lo ≤ p
structure Rws (lo Bd : Nat) (M : Mem) (q : Nat) : Prop where
  ex : ∃ ps : List Nat, M[q]? = some (.lst (ps.map D.ref)) ∧ ps.length ≤ Bd ∧ q ∉ ps ∧ ∀ p ∈ ps, Rw lo Bd M p
  lo : lo ≤ q
theorem Rw.same {lo Bd : Nat} {M M2 : Mem} {p : Nat} (h : Rw lo Bd M p) (e : ∀ q : Nat, lo ≤ q → M2[q]? = M[q]?) : Rw lo Bd M2 p := by
  obtain ⟨xs, h1, h2, h3⟩ := h.ex
  exact ⟨⟨xs, by rw [e p h.lo]; exact h1, h2, fun x hx => ⟨(h3 x hx).1.same e, (h3 x hx).2⟩⟩, h.lo⟩
theorem Rw.app {lo Bd : Nat} {M : Mem} {p : Nat} (h : Rw lo Bd M p) (e : Mem) : Rw lo Bd (M ++ e) p := by
  obtain ⟨xs, h1, h2, h3⟩ := h.ex
  exact ⟨⟨xs, get_app h1, h2, fun x hx => ⟨(h3 x hx).1.app e, (h3 x hx).2⟩⟩, h.lo⟩
theorem Rw.up {lo Bd B2 : Nat} {M : Mem} {p : Nat} (h : Rw lo Bd M p) (hb : Bd ≤ B2) : Rw lo B2 M p := by
  obtain ⟨xs, h1, h2, h3⟩ := h.ex
  exact ⟨⟨xs, h1, by omega, h3⟩, h.lo⟩
/-- a list elsewhere is written -/
theorem Rw.other {lo Bd : Nat} {M : Mem} {p q : Nat} (h : Rw lo Bd M p) {xs : List D} (hq : M[q]? = some (.lst xs)) (hlq : lo ≤ q) (hpq : q ≠ p) (ys : List D) : Rw lo Bd (M.set q (.lst ys)) p := by
  obtain ⟨zs, h1, h2, h3⟩ := h.ex
  exact ⟨⟨zs, get_other h1 hpq, h2, fun x hx => ⟨(h3 x hx).1.set hq hlq ys, (h3 x hx).2⟩⟩, h.lo⟩
/-- the row itself is written -/
theorem Rw.put {lo Bd : Nat} {M : Mem} {p : Nat} (h : Rw lo Bd M p) {ys : List D} (hl : ys.length ≤ Bd) (hy : ∀ y ∈ ys, knO lo M y ∧ lenD y ≤ 90000) : Rw lo Bd (M.set p (.lst ys)) p := by
  obtain ⟨zs, h1, h2, h3⟩ := h.ex
  exact ⟨⟨ys, get_put h1, hl, fun x hx => ⟨(hy x hx).1.set h1 h.lo ys, (hy x hx).2⟩⟩, h.lo⟩
theorem Rw.upd {lo Bd : Nat} {M : Mem} {p q : Nat} (h : Rw lo Bd M p) (hq : Rw lo Bd M q) {ys : List D} (hl : ys.length ≤ Bd) (hy : ∀ y ∈ ys, knO lo M y ∧ lenD y ≤ 90000) : Rw lo Bd (M.set q (.lst ys)) p := by
  by_cases e : q = p
  · subst e; exact h.put hl hy
  · obtain ⟨xs, h1, _, _⟩ := hq.ex
    exact h.other h1 hq.lo e ys
section
variable {lo Bd : Nat} {M : Mem} {q : Nat}
theorem Rws.same (h : Rws lo Bd M q) {M2 : Mem} (e : ∀ i : Nat, lo ≤ i → M2[i]? = M[i]?) : Rws lo Bd M2 q := by
  obtain ⟨ps, h1, h2, h3, h4⟩ := h.ex
  exact ⟨⟨ps, by rw [e q h.lo]; exact h1, h2, h3, fun p hp => (h4 p hp).same e⟩, h.lo⟩
theorem Rws.app (h : Rws lo Bd M q) (e : Mem) : Rws lo Bd (M ++ e) q := by
  obtain ⟨ps, h1, h2, h3, h4⟩ := h.ex
  exact ⟨⟨ps, get_app h1, h2, h3, fun p hp => (h4 p hp).app e⟩, h.lo⟩
theorem Rws.up (h : Rws lo Bd M q) {B2 : Nat} (hb : Bd ≤ B2) : Rws lo B2 M q := by
  obtain ⟨ps, h1, h2, h3, h4⟩ := h.ex
  exact ⟨⟨ps, h1, by omega, h3, fun p hp => (h4 p hp).up hb⟩, h.lo⟩
/-- other rows stand in the list -/
theorem Rws.putQ (h : Rws lo Bd M q) {ps : List Nat} (hl : ps.length ≤ Bd) (hq : q ∉ ps) (hp : ∀ p ∈ ps, Rw lo Bd M p) : Rws lo Bd (M.set q (.lst (ps.map D.ref))) q := by
  obtain ⟨ps0, h1, _, _, _⟩ := h.ex
  exact ⟨⟨ps, get_put h1, hl, hq, fun p hp2 => (hp p hp2).other h1 h.lo (fun z => hq (z ▸ hp2)) _⟩, h.lo⟩
/-- a row is written -/
theorem Rws.putR (h : Rws lo Bd M q) {p : Nat} (hp : Rw lo Bd M p) (hpq : p ≠ q) {ys : List D} (hl : ys.length ≤ Bd) (hy : ∀ y ∈ ys, knO lo M y ∧ lenD y ≤ 90000) : Rws lo Bd (M.set p (.lst ys)) q := by
  obtain ⟨ps, h1, h2, h3, h4⟩ := h.ex
  exact ⟨⟨ps, get_other h1 hpq, h2, h3, fun r hr => (h4 r hr).upd hp hl hy⟩, h.lo⟩
/-- a new list of some of the rows -/
theorem Rws.newQ {ps : List Nat} (hl : ps.length ≤ Bd) (hlo : lo ≤ M.length) (hp : ∀ p ∈ ps, Rw lo Bd M p) : Rws lo Bd (M ++ [.lst (ps.map D.ref)]) M.length :=
  ⟨⟨ps, get_end rfl, hl, fun z => by
    obtain ⟨xs, h1, _⟩ := (hp _ z).ex
    have := get_lt h1
    omega, fun p hp2 => (hp p hp2).app _⟩, hlo⟩
theorem Rws.row (h : Rws lo Bd M q) {i : Nat} {n : Nat} (hn : lenF (.v (.ref q)) M = some (.v (.int (n : Int)), M)) (hi : i < n) : ∃ p, ixF (.v (.ref q)) (.v (.int (i : Int))) M = some (.v (.ref p), M) ∧ Rw lo Bd M p ∧ p ≠ q := by
  obtain ⟨ps, h1, h2, h3, h4⟩ := h.ex
  have e : ps.length = n := by
    rw [len_ref h1] at hn
    injection hn with hn
    injection hn with hn _
    injection hn with hn
    injection hn with hn
    simpa using Int.ofNat_inj.mp hn
  have hi2 : i < ps.length := by omega
  refine ⟨ps[i], ?_, h4 _ (List.getElem_mem hi2), fun z => h3 (z ▸ List.getElem_mem hi2)⟩
  simp only [ixF, seqOf, h1, Option.bind_some]
  rw [atI_get _ _ (by simpa using hi2)]; simp
end
noncomputable def _law_truths_E1 (ρ : Env) (m : Mem) : Option (Out × Mem) := (eIf (bOf (eBin ltF (eVar 1) (eC (.int 2)))) (eBin eqF (eVar 1) (eC (.int 1))) (eVar 1)) ρ m
theorem w__law_truths_E1 {ρ : Env} {M : Mem} {Q : PO2} : WE _law_truths_E1 ρ M Q ↔ WE (eIf (bOf (eBin ltF (eVar 1) (eC (.int 2)))) (eBin eqF (eVar 1) (eC (.int 1))) (eVar 1)) ρ M Q := Iff.rfl
noncomputable def m__law_truths : Fn := fnD 1 2
    (sRet (eUn tupF (eComp (iE (eVar 0)) [1] (.nm 1) bYes _law_truths_E1)))
noncomputable def m__law_wrong : Fn := fnD 3 9
    (sSeq (sPut (eVar 2) (gT (.tp [6, 7, 8])))
    (sSeq (sSet 3 (eCall m__law_next (aCons (eVar 0) (aCons (eUn lenF (eVar 6)) aNil))))
    (sSeq (sSet 4 (eBin addF (eBin addF (eSl (eVar 8) oNone (oSome (eVar 3))) (eTup (aCons (eBin modF (eBin addF (eBin ixF (eVar 8) (eVar 3)) (eC (.int 1))) (eBin addF (eVar 7) (eC (.int 1)))) aNil))) (eSl (eVar 8) (oSome (eBin addF (eVar 3) (eC (.int 1)))) oNone)))
    (sSeq (sSet 5 (eLst (aCons (eTup (aCons (eVar 6) (aCons (eVar 7) (aCons (eVar 4) aNil)))) (aCons (eTup (aCons (eVar 6) (aCons (eBin addF (eVar 7) (eC (.int 1))) (aCons (eVar 8) aNil)))) (aCons (eTup (aCons (eVar 6) (aCons (eBin powF (eC (.int 10)) (eC (.int 30))) (aCons (eVar 8) aNil)))) (aCons (eTup (aCons (eVar 6) (aCons (eC (.int 0)) (aCons (eVar 8) aNil)))) aNil))))))
    (sSeq (sSet 5 (eBin addF (eVar 5) (eLst (aCons (eTup (aCons (eVar 6) (aCons (eUn strF (eVar 7)) (aCons (eVar 8) aNil)))) (aCons (eTup (aCons (eUn listF (eVar 6)) (aCons (eVar 7) (aCons (eVar 8) aNil)))) (aCons (eLst (aCons (eVar 6) (aCons (eVar 7) (aCons (eVar 8) aNil)))) aNil))))))
    (sSeq (sSet 5 (eBin addF (eVar 5) (eLst (aCons (eTup (aCons (eVar 6) (aCons (eVar 7) (aCons (eUn listF (eVar 8)) aNil)))) (aCons (eTup (aCons (eVar 6) (aCons (eVar 7) (aCons (eBin addF (eVar 8) (eTup (aCons (eC (.int 0)) aNil))) aNil)))) (aCons (eTup (aCons (eVar 6) (aCons (eVar 7) aNil))) (aCons (eTup (aCons (eVar 6) (aCons (eVar 7) (aCons (eVar 8) (aCons (eC (.int 0)) aNil))))) aNil)))))))
    (sSeq (sSet 5 (eBin addF (eVar 5) (eLst (aCons (eTup (aCons (eBin addF (eVar 6) (eTup (aCons (eUn lenF (eVar 1)) aNil))) (aCons (eVar 7) (aCons (eBin addF (eVar 8) (eTup (aCons (eC (.int 0)) aNil))) aNil)))) (aCons (eTup (aCons (eBin addF (eUn revNF (eVar 6)) (eTup (aCons (eUn negF (eC (.int 1))) aNil))) (aCons (eVar 7) (aCons (eVar 8) aNil)))) (aCons (eC .non) (aCons (eC (.int 0)) aNil)))))))
    (sSeq (sIf (bOf (eBin gtF (eUn lenF (eVar 6)) (eC (.int 1)))) (sSeq (sDo (eMt1 "list" appF (eVar 5) (eTup (aCons (eBin addF (eSl (eVar 6) oNone (oSome (eVar 3))) (eSl (eVar 6) (oSome (eBin addF (eVar 3) (eC (.int 1)))) oNone)) (aCons (eVar 7) (aCons (eBin addF (eSl (eVar 8) oNone (oSome (eVar 3))) (eSl (eVar 8) (oSome (eBin addF (eVar 3) (eC (.int 1)))) oNone)) aNil))))))
    (sDo (eMt1 "list" appF (eVar 5) (eTup (aCons (eUn revNF (eVar 6)) (aCons (eVar 7) (aCons (eUn revNF (eVar 8)) aNil))))))) sNil)
    (sSeq (sIf (bOf (eBin eqF (eVar 7) (eC (.int 1)))) (sDo (eMt1 "list" appF (eVar 5) (eTup (aCons (eVar 6) (aCons (eC (.bl true)) (aCons (eVar 8) aNil)))))) sNil)
    (sSeq (sIf (bOf (eBin ltF (eBin ixF (eVar 6) (eC (.int 0))) (eC (.int 2)))) (sDo (eMt1 "list" appF (eVar 5) (eTup (aCons (eBin addF (eTup (aCons (eBin eqF (eBin ixF (eVar 6) (eC (.int 0))) (eC (.int 1))) aNil)) (eSl (eVar 6) (oSome (eC (.int 1))) oNone)) (aCons (eVar 7) (aCons (eVar 8) aNil)))))) sNil)
    (sSeq (sDo (eMt1 "list" appF (eVar 5) (eTup (aCons (eVar 6) (aCons (eVar 7) (aCons (eCall m__law_truths (aCons (eVar 8) aNil)) aNil))))))
    (sRet (eVar 5)))))))))))))
noncomputable def _law_turned_E1 (ρ : Env) (m : Mem) : Option (Out × Mem) := (eBin modF (eVar 9) (eVar 4)) ρ m
theorem w__law_turned_E1 {ρ : Env} {M : Mem} {Q : PO2} : WE _law_turned_E1 ρ M Q ↔ WE (eBin modF (eVar 9) (eVar 4)) ρ M Q := Iff.rfl
noncomputable def _law_turned_E2 (ρ : Env) (m : Mem) : Option (Out × Mem) := (eBin modF (eBin addF (eVar 9) (eVar 2)) (eVar 6)) ρ m
theorem w__law_turned_E2 {ρ : Env} {M : Mem} {Q : PO2} : WE _law_turned_E2 ρ M Q ↔ WE (eBin modF (eBin addF (eVar 9) (eVar 2)) (eVar 6)) ρ M Q := Iff.rfl
noncomputable def _law_turned_C1 (ρ : Env) (m : Mem) : Option (Bool × Mem) := (bOf (eBin eqF (eBin modF (eVar 6) (eVar 8)) (eC (.int 0)))) ρ m
theorem w__law_turned_C1 {ρ : Env} {M : Mem} {Q : Bool → Mem → Prop} : WB _law_turned_C1 ρ M Q ↔ WB (bOf (eBin eqF (eBin modF (eVar 6) (eVar 8)) (eC (.int 0)))) ρ M Q := Iff.rfl
noncomputable def _law_turned_E3 (ρ : Env) (m : Mem) : Option (Out × Mem) := (eVar 8) ρ m
theorem w__law_turned_E3 {ρ : Env} {M : Mem} {Q : PO2} : WE _law_turned_E3 ρ M Q ↔ WE (eVar 8) ρ M Q := Iff.rfl
noncomputable def m__law_turned : Fn := fnD 2 10
    (sSeq (sPut (eVar 1) (gT (.tp [5, 6, 7])))
    (sSeq (sSet 2 (eCall m__law_next (aCons (eVar 0) (aCons (eVar 6) aNil))))
    (sSeq (sSet 3 (eComp (iRg2 (eC (.int 1)) (eBin addF (eVar 6) (eC (.int 1)))) [8] (.nm 8) _law_turned_C1 _law_turned_E3))
    (sSeq (sSet 4 (eBin ixF (eVar 3) (eCall m__law_next (aCons (eVar 0) (aCons (eUn lenF (eVar 3)) aNil)))))
    (sRet (eLst (aCons (eTup (aCons (eVar 5) (aCons (eVar 6) (aCons (eUn tupF (eComp (iE (eVar 7)) [9] (.nm 9) bYes _law_turned_E2)) aNil)))) (aCons (eTup (aCons (eVar 5) (aCons (eVar 4) (aCons (eUn tupF (eComp (iE (eVar 7)) [9] (.nm 9) bYes _law_turned_E1)) aNil)))) aNil))))))))
noncomputable def law_E1 (ρ : Env) (m : Mem) : Option (Out × Mem) := (eBin (isF false) (eCall m_shows_beats (aCons (eVar 3) (aCons (eVar 11) aNil))) (eC (.bl false))) ρ m
theorem w_law_E1 {ρ : Env} {M : Mem} {Q : PO2} : WE law_E1 ρ M Q ↔ WE (eBin (isF false) (eCall m_shows_beats (aCons (eVar 3) (aCons (eVar 11) aNil))) (eC (.bl false))) ρ M Q := Iff.rfl
noncomputable def law_E2 (ρ : Env) (m : Mem) : Option (Out × Mem) := (eBin addF (eBin addF (eSl (eVar 4) oNone (oSome (eVar 9))) (eTup (aCons (eVar 10) aNil))) (eSl (eVar 4) (oSome (eBin addF (eVar 9) (eC (.int 1)))) oNone)) ρ m
theorem w_law_E2 {ρ : Env} {M : Mem} {Q : PO2} : WE law_E2 ρ M Q ↔ WE (eBin addF (eBin addF (eSl (eVar 4) oNone (oSome (eVar 9))) (eTup (aCons (eVar 10) aNil))) (eSl (eVar 4) (oSome (eBin addF (eVar 9) (eC (.int 1)))) oNone)) ρ M Q := Iff.rfl
noncomputable def law_F1 (ρ : Env) (m : Mem) : Option R := (sDo (eMt1 "list" extF (eVar 8) (eComp (iE (eCall m__law_wrong (aCons (eVar 1) (aCons (eVar 3) (aCons (eVar 7) aNil))))) [10] (.nm 10) bYes law_E2))) ρ m
theorem w_law_F1 {ρ : Env} {M : Mem} {Q : R → Prop} : WS law_F1 ρ M Q ↔ WS (sDo (eMt1 "list" extF (eVar 8) (eComp (iE (eCall m__law_wrong (aCons (eVar 1) (aCons (eVar 3) (aCons (eVar 7) aNil))))) [10] (.nm 10) bYes law_E2))) ρ M Q := Iff.rfl
noncomputable def law_E3 (ρ : Env) (m : Mem) : Option (Out × Mem) := (eBin (isF false) (eCall m_shows_beats (aCons (eVar 3) (aCons (eVar 11) aNil))) (eC (.bl true))) ρ m
theorem w_law_E3 {ρ : Env} {M : Mem} {Q : PO2} : WE law_E3 ρ M Q ↔ WE (eBin (isF false) (eCall m_shows_beats (aCons (eVar 3) (aCons (eVar 11) aNil))) (eC (.bl true))) ρ M Q := Iff.rfl
noncomputable def law_E4 (ρ : Env) (m : Mem) : Option (Out × Mem) := (eTup (aCons (eVar 10) aNil)) ρ m
theorem w_law_E4 {ρ : Env} {M : Mem} {Q : PO2} : WE law_E4 ρ M Q ↔ WE (eTup (aCons (eVar 10) aNil)) ρ M Q := Iff.rfl
noncomputable def law_F2 (ρ : Env) (m : Mem) : Option R := (sDo (eMt1 "list" extF (eVar 5) (eComp (iE (eCall m__law_turned (aCons (eVar 1) (aCons (eVar 7) aNil)))) [10] (.nm 10) bYes law_E4))) ρ m
theorem w_law_F2 {ρ : Env} {M : Mem} {Q : R → Prop} : WS law_F2 ρ M Q ↔ WS (sDo (eMt1 "list" extF (eVar 5) (eComp (iE (eCall m__law_turned (aCons (eVar 1) (aCons (eVar 7) aNil)))) [10] (.nm 10) bYes law_E4))) ρ M Q := Iff.rfl
noncomputable def law_C1 (ρ : Env) (m : Mem) : Option (Bool × Mem) := (bOf (eBin eqF (eCall m__law_next (aCons (eVar 1) (aCons (eC (.int 2)) aNil))) (eC (.int 0)))) ρ m
theorem w_law_C1 {ρ : Env} {M : Mem} {Q : Bool → Mem → Prop} : WB law_C1 ρ M Q ↔ WB (bOf (eBin eqF (eCall m__law_next (aCons (eVar 1) (aCons (eC (.int 2)) aNil))) (eC (.int 0)))) ρ M Q := Iff.rfl
noncomputable def law_E5 (ρ : Env) (m : Mem) : Option (Out × Mem) := (eVar 7) ρ m
theorem w_law_E5 {ρ : Env} {M : Mem} {Q : PO2} : WE law_E5 ρ M Q ↔ WE (eVar 7) ρ M Q := Iff.rfl
noncomputable def law_F3 (ρ : Env) (m : Mem) : Option R := (sSeq (sSet 3 (eCall m__law_web (aCons (eVar 1) (aCons (eC (.int 26)) (aCons (eC (.int 6)) aNil)))))
    (sSeq (sSet 4 (eCall m__law_beats (aCons (eVar 3) aNil)))
    (sSeq (sSet 5 (eLst (aCons (eTup aNil) (aCons (eVar 4) (aCons (eUn tupF (eComp (iE (eVar 4)) [7] (.nm 7) law_C1 law_E5)) (aCons (eUn revTF (eVar 4)) aNil))))))
    (sSeq (sSet 6 (eRg1 mkT (eUn lenF (eVar 3))))
    (sSeq (sDo (eMt1 "list" appF (eVar 5) (eTup (aCons (eTup (aCons (eVar 6) (aCons (eC (.int 1)) (aCons (eBin mulTF (eTup (aCons (eC (.int 0)) aNil)) (eUn lenF (eVar 3))) aNil)))) aNil))))
    (sSeq (sFor (iE (eVar 4)) (gT (.nm 7)) law_F2)
    (sSeq (sIf (bNot (bOf (eUn allF (eComp (iE (eVar 5)) [11] (.nm 11) bYes law_E3)))) (sRet (eC (.bl false))) sNil)
    (sSeq (sSet 8 (eLst (aCons (eUn listF (eVar 4)) (aCons (eBin addF (eVar 4) (eSl (eVar 4) oNone (oSome (eC (.int 1))))) (aCons (eBin addF (eVar 4) (eTup (aCons (eTup (aCons (eVar 6) (aCons (eC (.int 1)) (aCons (eBin mulTF (eTup (aCons (eC (.int 0)) aNil)) (eUn lenF (eVar 3))) aNil)))) aNil))) (aCons (eC .non) (aCons (eC (.int 0)) (aCons (eC (.str "beats")) (aCons (eTup (aCons (eC .non) aNil)) (aCons (eTup (aCons (eTup aNil) aNil)) aNil))))))))))
    (sSeq (sFor (iEnumE (eVar 4)) (gT (.tp [9, 7])) law_F1)
    (sIf (bNot (bOf (eUn allF (eComp (iE (eVar 8)) [11] (.nm 11) bYes law_E1)))) (sRet (eC (.bl false))) sNil)))))))))) ρ m
theorem w_law_F3 {ρ : Env} {M : Mem} {Q : R → Prop} : WS law_F3 ρ M Q ↔ WS (sSeq (sSet 3 (eCall m__law_web (aCons (eVar 1) (aCons (eC (.int 26)) (aCons (eC (.int 6)) aNil)))))
    (sSeq (sSet 4 (eCall m__law_beats (aCons (eVar 3) aNil)))
    (sSeq (sSet 5 (eLst (aCons (eTup aNil) (aCons (eVar 4) (aCons (eUn tupF (eComp (iE (eVar 4)) [7] (.nm 7) law_C1 law_E5)) (aCons (eUn revTF (eVar 4)) aNil))))))
    (sSeq (sSet 6 (eRg1 mkT (eUn lenF (eVar 3))))
    (sSeq (sDo (eMt1 "list" appF (eVar 5) (eTup (aCons (eTup (aCons (eVar 6) (aCons (eC (.int 1)) (aCons (eBin mulTF (eTup (aCons (eC (.int 0)) aNil)) (eUn lenF (eVar 3))) aNil)))) aNil))))
    (sSeq (sFor (iE (eVar 4)) (gT (.nm 7)) law_F2)
    (sSeq (sIf (bNot (bOf (eUn allF (eComp (iE (eVar 5)) [11] (.nm 11) bYes law_E3)))) (sRet (eC (.bl false))) sNil)
    (sSeq (sSet 8 (eLst (aCons (eUn listF (eVar 4)) (aCons (eBin addF (eVar 4) (eSl (eVar 4) oNone (oSome (eC (.int 1))))) (aCons (eBin addF (eVar 4) (eTup (aCons (eTup (aCons (eVar 6) (aCons (eC (.int 1)) (aCons (eBin mulTF (eTup (aCons (eC (.int 0)) aNil)) (eUn lenF (eVar 3))) aNil)))) aNil))) (aCons (eC .non) (aCons (eC (.int 0)) (aCons (eC (.str "beats")) (aCons (eTup (aCons (eC .non) aNil)) (aCons (eTup (aCons (eTup aNil) aNil)) aNil))))))))))
    (sSeq (sFor (iEnumE (eVar 4)) (gT (.tp [9, 7])) law_F1)
    (sIf (bNot (bOf (eUn allF (eComp (iE (eVar 8)) [11] (.nm 11) bYes law_E1)))) (sRet (eC (.bl false))) sNil)))))))))) ρ M Q := Iff.rfl
noncomputable def m_law : Fn := fnD 1 12
    (sSeq (sSet 1 (eCall m__law_begin (aCons (eVar 0) aNil)))
    (sSeq (sFor (iRg1 (eBin addF (eC (.int 2)) (eUn lenF (eSl (eVar 0) oNone (oSome (eC (.int 8))))))) (gT (.nm 2)) law_F3)
    (sRet (eC (.bl true)))))
/-! ### right ones and wrong ones -/
section
variable {W : List (List Nat)} {l : Nat}
/-- all rooms with the beat 1 -/
theorem bt_all (hW : Mach W l) (h0 : 0 < W.length) : IsBt W (List.range W.length) 1 (List.replicate W.length 0) := by
  refine ⟨all_rs _, List.ne_nil_of_mem (List.mem_range.mpr h0), by simp, fun v => ?_, fun i hi g hg => ?_⟩
  · rw [List.mem_replicate]; omega
  · have hi' : i < W.length := by simpa using hi
    have e : (List.range W.length).getD i 0 = i := by simp [List.getD, hi']
    rw [e] at hg
    obtain ⟨a, ha, rfl⟩ := (row_stp hW hi').mp hg
    refine ⟨List.mem_range.mpr (stp_lt hW hi' ha), ?_⟩
    have z : ∀ j, (List.replicate W.length 0).getD j 0 = 0 := fun j => by
      rw [List.getD, List.getElem?_replicate]; split <;> rfl
    rw [z, z]
theorem getD_map {f : Nat → Nat} {ph : List Nat} {i : Nat} (hi : i < ph.length) : (ph.map f).getD i 0 = f (ph.getD i 0) := by simp [List.getD, hi]
theorem bt_pos {P : List Nat} {b : Nat} {ph : List Nat} (B : IsBt W P b ph) : 0 < b := by
  obtain ⟨x, hx⟩ := List.exists_mem_of_ne_nil P B.ne
  have : 0 < ph.length := by rw [B.len]; exact List.length_pos_of_mem hx
  obtain ⟨v, hv⟩ := List.exists_mem_of_length_pos this
  have := (B.cov v).mp hv
  omega
/-- phases turned -/
theorem bt_turn {P : List Nat} {b : Nat} {ph : List Nat} (B : IsBt W P b ph) (c : Nat) : IsBt W P b (ph.map fun v => (v + c) % b) := by
  have hb := bt_pos B
  refine ⟨B.rs, B.ne, by simp [B.len], fun v => ⟨fun hv => ?_, fun hv => ?_⟩, fun i hi g hg => ?_⟩
  · obtain ⟨u, _, rfl⟩ := List.mem_map.mp hv
    exact Nat.mod_lt _ hb
  · refine List.mem_map.mpr ⟨(v + (b - 1) * c) % b, (B.cov _).mpr (Nat.mod_lt _ hb), ?_⟩
    rw [Nat.mod_add_mod]
    have : v + (b - 1) * c + c = v + b * c := by
      have : (b - 1) * c + c = b * c := by rw [← Nat.succ_mul]; congr 1; omega
      omega
    rw [this, Nat.add_mul_mod_self_left, Nat.mod_eq_of_lt hv]
  · obtain ⟨h1, h2⟩ := B.keep i hi g hg
    refine ⟨h1, ?_⟩
    have hx : P.idxOf g < ph.length := by rw [B.len]; exact List.idxOf_lt_length_of_mem h1
    rw [getD_map hx, getD_map (by rw [B.len]; exact hi), h2]
    simp only [Nat.mod_add_mod]
    congr 1
    omega
/-- a beat that divides it -/
theorem bt_div {P : List Nat} {b : Nat} {ph : List Nat} (B : IsBt W P b ph) {d : Nat} (hd : 0 < d) (hdb : d ∣ b) : IsBt W P d (ph.map fun v => v % d) := by
  have hb := bt_pos B
  have hle := Nat.le_of_dvd hb hdb
  refine ⟨B.rs, B.ne, by simp [B.len], fun v => ⟨fun hv => ?_, fun hv => ?_⟩, fun i hi g hg => ?_⟩
  · obtain ⟨u, _, rfl⟩ := List.mem_map.mp hv
    exact Nat.mod_lt _ hd
  · exact List.mem_map.mpr ⟨v, (B.cov v).mpr (by omega), Nat.mod_eq_of_lt hv⟩
  · obtain ⟨h1, h2⟩ := B.keep i hi g hg
    refine ⟨h1, ?_⟩
    have hx : P.idxOf g < ph.length := by rw [B.len]; exact List.idxOf_lt_length_of_mem h1
    rw [getD_map hx, getD_map (by rw [B.len]; exact hi), h2, Nat.mod_mod_of_dvd _ hdb, Nat.mod_add_mod]
/-- phases of one part differ by a turn -/
theorem bt_uniq (hW : Mach W l) {p0 : Nat} (hx : p0 < W.length) {b : Nat} {ph ph' : List Nat} (B : IsBt W (rchS W l p0) b ph) (B' : IsBt W (rchS W l p0) b ph') {y : Nat} (hy : y ∈ rchS W l p0) :
    (ph.getD ((rchS W l p0).idxOf y) 0 + ph'.getD ((rchS W l p0).idxOf p0) 0) % b = (ph'.getD ((rchS W l p0).idxOf y) 0 + ph.getD ((rchS W l p0).idxOf p0) 0) % b := by
  obtain ⟨w, hw, e⟩ := (rchS_mem.mp hy).2
  have hp : p0 ∈ rchS W l p0 := rchS_mem.mpr ⟨hx, Rch.refl p0⟩
  have L : Lett W W l := ⟨hW, rfl, fun r hr a ha => (row_stp hW hr).mpr ⟨a, ha, rfl⟩⟩
  have h1 := (bt_led L B hw hp).2
  have h2 := (bt_led L B' hw hp).2
  rw [e] at h1 h2
  rw [h1, h2, Nat.mod_add_mod, Nat.mod_add_mod]
  congr 1
  omega
end
theorem nb {W : List (List Nat)} {d : D} (h : ∀ P b ph, d = btD P b ph → IsBt W P b ph → False) : btB W d = false := btB_false (by rintro ⟨P, b, ph, e, B⟩; exact h P b ph e B)
theorem btD_inv {x y z : D} {P : List Nat} {b : Nat} {ph : List Nat} (h : D.tup [x, y, z] = btD P b ph) : x = tN P ∧ y = .int (b : Int) ∧ z = tN ph := by
  unfold btD at h
  injection h with e; injection e with e1 e; injection e with e2 e; injection e with e _
  exact ⟨e1, e2, e⟩
theorem cov_b {W : List (List Nat)} {P ph : List Nat} {b b' : Nat} (B : IsBt W P b ph) (B' : IsBt W P b' ph) : b = b' := by
  rcases Nat.lt_trichotomy b b' with h | h | h
  · have := (B.cov b).mp ((B'.cov b).mpr h); omega
  · exact h
  · have := (B'.cov b').mp ((B.cov b').mpr h); omega
section
variable {W : List (List Nat)} {l : Nat}
theorem mod_suc {b x : Nat} (hb : 0 < b) (h : (x + 1) % b = x % b) : b = 1 := by
  have := Nat.sub_mod_eq_zero_of_mod_eq h
  rw [Nat.add_sub_cancel_left] at this
  by_cases h1 : 1 < b
  · rw [Nat.mod_eq_of_lt h1] at this; omega
  · omega
/-- one phase otherwise -/
theorem nb_oth (hW : Mach W l) (hl : 0 < l) {P : List Nat} (hp : P ∈ cpN W l W.length) {ph : List Nat} {b : Nat} (B : IsBt W P b ph) {i : Nat} (hi : i < P.length) : btB W (btD P b (ph.take i ++ [(ph.getD i 0 + 1) % (b + 1)] ++ ph.drop (i + 1))) = false := by
  refine nb fun P' b' ph' e B' => ?_
  obtain ⟨e1, e2, e3⟩ := btD_inv e
  injection e2 with e2
  have h1 := tN_injB e1
  have h2 := Int.ofNat_inj.mp e2
  have h3 := tN_injB e3
  subst h1 h2
  have hb := bt_pos B
  have hip : i < ph.length := by rw [B.len]; exact hi
  have hvi : ph.getD i 0 < b := by rw [← B.cov, show ph.getD i 0 = ph[i] by simp [List.getD, hip]]; exact List.getElem_mem _
  have hv : (ph.getD i 0 + 1) % (b + 1) = ph.getD i 0 + 1 := Nat.mod_eq_of_lt (by omega)
  have g1 : ph'.getD i 0 = ph.getD i 0 + 1 := by
    rw [← h3, hv, List.getD, List.append_assoc, List.getElem?_append_right (by simp; omega)]
    simp [Nat.min_eq_left (Nat.le_of_lt hip)]
  have g2 : ∀ j, j ≠ i → ph'.getD j 0 = ph.getD j 0 := fun j hj => by
    rw [← h3, List.getD, List.getD, List.append_assoc]
    congr 1
    by_cases h : j < i
    · rw [List.getElem?_append_left (by simp; omega), List.getElem?_take_of_lt h]
    · rw [List.getElem?_append_right (by simp; omega), List.length_take, Nat.min_eq_left (Nat.le_of_lt hip)]
      have : j - i = (j - i - 1) + 1 := by omega
      rw [this, List.singleton_append, List.getElem?_cons_succ, List.getElem?_drop]
      congr 1; omega
  have hip' : i < ph'.length := by rw [B'.len]; exact hi
  have hvi' : ph'.getD i 0 < b := by rw [← B'.cov, show ph'.getD i 0 = ph'[i] by simp [List.getD, hip']]; exact List.getElem_mem _
  obtain ⟨p0, pt, e0, hx, er⟩ := cp_head hp
  have hnd : P.Nodup := B.rs.rise.imp fun h => by omega
  have hp0 : p0 ∈ P := by rw [e0]; simp
  have i0 : P.idxOf p0 = 0 := by rw [e0]; simp
  have uq : ∀ y ∈ P, (ph.getD (P.idxOf y) 0 + ph'.getD 0 0) % b = (ph'.getD (P.idxOf y) 0 + ph.getD 0 0) % b := fun y hy => by
    have := bt_uniq hW hx (b := b) (ph := ph) (ph' := ph') (by rw [← er]; exact B) (by rw [← er]; exact B') (y := y) (by rw [← er]; exact hy)
    rw [← er, i0] at this
    exact this
  by_cases hi0 : i = 0
  · subst hi0
    -- another room?
    by_cases h1 : 1 < P.length
    · have := uq P[1] (List.getElem_mem h1)
      rw [hnd.idxOf_getElem 1 h1, g2 1 (by omega), g1] at this
      have h3 : (ph.getD 1 0 + (ph.getD 0 0 + 1)) % b = (ph.getD 1 0 + ph.getD 0 0) % b := this
      have := mod_suc hb (x := ph.getD 1 0 + ph.getD 0 0) (by rw [Nat.add_assoc]; exact h3)
      omega
    · have hl1 : ph.length = 1 := by rw [B.len]; omega
      have hb1 : b ≤ 1 := by
        have hn : (List.range b).Nodup := List.nodup_range
        have := nodup_lenN hn (U := ph) fun x hx => (B.cov x).mpr (List.mem_range.mp hx)
        simp at this; omega
      omega
  · have := uq P[i] (List.getElem_mem hi)
    rw [hnd.idxOf_getElem i hi, g1, g2 0 (fun z => hi0 z.symm)] at this
    have := mod_suc hb (x := ph.getD i 0 + ph.getD 0 0) (by rw [← show ph.getD i 0 + 1 + ph.getD 0 0 = ph.getD i 0 + ph.getD 0 0 + 1 by omega]; exact this.symm)
    omega
/-- a room left out -/
theorem nb_less (hW : Mach W l) (hl : 0 < l) {P : List Nat} (hp : P ∈ cpN W l W.length) {i : Nat} (hi : i < P.length) (h1 : 1 < P.length) (y z : D) : btB W (.tup [tN (P.take i ++ P.drop (i + 1)), y, z]) = false := by
  refine nb fun P' b' ph' e B' => ?_
  obtain ⟨e1, e2, e3⟩ := btD_inv e
  have h1' := tN_injB e1
  have hnd : P.Nodup := (part_rs hp).1.rise.imp fun h => by omega
  have hmem : ∀ x, x ∈ P' ↔ x ∈ P ∧ x ≠ P[i] := fun x => by
    have e : P = P.take i ++ P[i] :: P.drop (i + 1) := by rw [← List.drop_eq_getElem_cons hi, List.take_append_drop]
    have hn2 := hnd
    rw [e, List.nodup_append, List.nodup_cons] at hn2
    rw [← h1']
    constructor
    · intro h
      refine ⟨?_, fun z => ?_⟩
      · rw [e]; simp only [List.mem_append, List.mem_cons] at h ⊢
        rcases h with h | h
        · exact .inl h
        · exact .inr (.inr h)
      · subst z
        rcases List.mem_append.mp h with h | h
        · exact hn2.2.2 _ h _ List.mem_cons_self rfl
        · exact hn2.2.1.1 h
    · rintro ⟨h, hx⟩
      rw [e] at h
      simp only [List.mem_append, List.mem_cons] at h ⊢
      rcases h with h | h | h
      · exact .inl h
      · exact absurd h hx
      · exact .inr h
  -- from a room left, words stay
  have L : Lett W W l := ⟨hW, rfl, fun r hr a ha => (row_stp hW hr).mpr ⟨a, ha, rfl⟩⟩
  obtain ⟨u, hu⟩ := List.exists_mem_of_ne_nil P' B'.ne
  have hu' := (hmem u).mp hu
  obtain ⟨x, hx, er, hc⟩ := cp_closed _ P hp
  have hxu := (rchS_mem.mp (hc u hu'.1)).2
  have hPi : P[i] ∈ P := List.getElem_mem hi
  have hxi := (rchS_mem.mp (show P[i] ∈ rchS W l x by rw [← er]; exact hPi)).2
  obtain ⟨w, hw, ew⟩ := hxu.trans hxi
  have := (bt_led L B' hw hu).1
  rw [ew] at this
  exact ((hmem _).mp this).2 rfl
end
theorem shb_bad {W : List (List Nat)} {xs : List D} {d : D} (hd : d ∈ xs) (h : btB W d = false) : shbB W (.tup xs) = false := by
  rw [Bool.eq_false_iff]
  intro z
  obtain ⟨T, e, hT, _⟩ := shbB_iff.mp z
  injection e with e
  rw [e] at hd
  obtain ⟨t, ht, rfl⟩ := List.mem_map.mp hd
  rw [trD, btB_true (hT t ht)] at h
  cases h
theorem shb_nt {W : List (List Nat)} {d : D} (h : ∀ xs, d ≠ .tup xs) : shbB W d = false := by
  rw [Bool.eq_false_iff]
  intro z
  obtain ⟨T, e, _⟩ := shbB_iff.mp z
  exact h _ e
theorem turned_w {st : D} {ab : List Nat} {S : Mem → Prop} (g : Gen st ab S m__law_next) {M : Mem} (h : S M) {W : List (List Nat)} {P : List Nat} {b : Nat} {ph : List Nat} (B : IsBt W P b ph) (hb : b ≤ 1000) {K : PO2} (k : ∀ (p1 p2 : List Nat) (d : Nat) (M' : Mem), IsBt W P b p1 → IsBt W P d p2 → S M' → Fr ab M M' → K (.o (.lst [btD P b p1, btD P d p2])) M') : WO (m__law_turned [st, btD P b ph] M) K := by
  unfold m__law_turned
  have hb0 := bt_pos B
  simp only [btD, wp, wx, wf, Nat.reduceSub]
  refine (Loc.new h).w g hb0 (by omega) fun r M1 hr L1 o1 => ?_
  have e1 : ((b : Int) + 1 - 1).toNat = b := by omega
  simp only [wp, wx, add_int, e1]
  refine ⟨rg2Ok_of (by omega) (by omega) (by omega) (by omega), ?_⟩
  unfold upto
  refine wc_flt (fun (i : Nat) => D.int (1 + (i : Int))) (fun (i : Nat) => D.int (1 + (i : Int))) (fun i => decide (b % (i + 1) = 0)) (List.range b) (fun i hi => ?_) ?_
  · refine ⟨_, rfl, wb_eq ?_, fun _ => ?_⟩
    · have m1 : ∀ M : Mem, modF (.v (.int (b : Int))) (.v (.int (1 + (i : Int)))) M = some (.v (.int ((b % (i + 1) : Nat) : Int)), M) := fun M => by
        rw [mod_int, if_pos (by omega), show (1 : Int) + (i : Int) = ((i + 1 : Nat) : Int) by omega]; rfl
      simp only [wp, wx, w__law_turned_C1, m1, eq_int]
      refine ⟨?_, trivial⟩
      rw [Bool.eq_iff_iff, decide_eq_true_iff, decide_eq_true_iff]; omega
    · simp only [wp, wx, w__law_turned_E3]
      exact ⟨rfl, rfl⟩
  have hpos : 0 < ((List.range b).filter fun i => decide (b % (i + 1) = 0)).length := List.length_pos_of_mem (a := 0) (List.mem_filter.mpr ⟨List.mem_range.mpr hb0, by simp [Nat.mod_one]⟩)
  have hle : ((List.range b).filter fun i => decide (b % (i + 1) = 0)).length ≤ b := by have := List.length_filter_le (fun i => decide (b % (i + 1) = 0)) (List.range b); simpa using this
  have hdv : ∀ i ∈ (List.range b).filter fun i => decide (b % (i + 1) = 0), (i + 1) ∣ b := fun i hi => by
    have := (List.mem_filter.mp hi).2
    simp at this
    exact Nat.dvd_of_mod_eq_zero this
  generalize (List.range b).filter (fun i => decide (b % (i + 1) = 0)) = ys at hpos hle hdv ⊢
  have L2 := L1.app g [Ob.lst (ys.map fun (i : Nat) => D.int (1 + (i : Int)))]
  have hq2 : (M1 ++ [Ob.lst (ys.map fun (i : Nat) => D.int (1 + (i : Int)))])[M1.length]? = some (.lst (ys.map fun (i : Nat) => D.int (1 + (i : Int)))) := get_end rfl
  have eln : lenF (.v (.ref M1.length)) (M1 ++ [Ob.lst (ys.map fun (i : Nat) => D.int (1 + (i : Int)))]) = some (.v (.int (ys.length : Int)), M1 ++ [Ob.lst (ys.map fun (i : Nat) => D.int (1 + (i : Int)))]) := by rw [len_ref hq2]; simp
  simp only [wp, wx, eln]
  refine L2.w g hpos (by omega) fun r2 M3 hr2 L3 o3 => ?_
  have hq3 := o3.get L1.le hq2
  simp only [wp, wx]
  refine pick_r hq3 (by simpa using hr2) fun d hd => ?_
  obtain ⟨i, hi, rfl⟩ := List.mem_map.mp hd
  have hdi := hdv i hi
  simp only [wp, wx, src_tN]
  refine wc_map (fun (v : Nat) => D.int (v : Int)) (fun (v : Nat) => D.int (((v + r) % b : Nat) : Int)) ph (fun v hv => ?_) ?_
  · have m1 : ∀ M : Mem, modF (.v (.int ((v : Int) + (r : Int)))) (.v (.int (b : Int))) M = some (.v (.int (((v + r) % b : Nat) : Int)), M) := fun M => by
      rw [mod_int, if_pos (by omega)]; rfl
    simp only [wp, wx, w__law_turned_E2, add_int, m1]
    exact ⟨rfl, rfl⟩
  simp only [wp, wx, tup_ol, src_tN]
  refine wc_map (fun (v : Nat) => D.int (v : Int)) (fun (v : Nat) => D.int ((v % (i + 1) : Nat) : Int)) ph (fun v hv => ?_) ?_
  · have m1 : ∀ M : Mem, modF (.v (.int (v : Int))) (.v (.int (1 + (i : Int)))) M = some (.v (.int ((v % (i + 1) : Nat) : Int)), M) := fun M => by
      rw [mod_int, if_pos (by omega), show (1 : Int) + (i : Int) = ((i + 1 : Nat) : Int) by omega]; rfl
    simp only [wp, wx, w__law_turned_E1, m1]
    exact ⟨rfl, rfl⟩
  simp only [wp, wx, tup_ol]
  have ed1 : D.tup [tN P, .int (b : Int), .tup (ph.map fun (v : Nat) => D.int (((v + r) % b : Nat) : Int))] = btD P b (ph.map fun v => (v + r) % b) := by simp [btD, tN, nats, Function.comp_def]
  have ed2 : D.tup [tN P, .int (1 + (i : Int)), .tup (ph.map fun (v : Nat) => D.int ((v % (i + 1) : Nat) : Int))] = btD P (i + 1) (ph.map fun v => v % (i + 1)) := by simp [btD, tN, nats, Function.comp_def]; omega
  rw [ed1, ed2]
  refine L3.kFnO g (by show loL M.length _; simp [btD]) fun M4 s4 f4 => ?_
  exact k _ _ _ M4 (bt_turn B r) (bt_div B (by omega) hdi) s4 f4
structure WrI (ab : List Nat) (S : Mem → Prop) (M : Mem) (W : List (List Nat)) (q n : Nat) (M' : Mem) : Prop where
  L : Loc ab S M M'
  hq : M.length ≤ q
  xs : ∃ xs : List D, M'[q]? = some (Ob.lst xs) ∧ xs.length ≤ n ∧ (∀ d ∈ xs, kn M' d ∧ btB W d = false) ∧ ∃ p, D.ref p ∈ xs ∧ M.length ≤ p
theorem kn_set {A : Mem} {q : Nat} {xs : List D} (h : A[q]? = some (.lst xs)) (ys : List D) {d : D} (k : kn A d) : kn (A.set q (.lst ys)) d := kn_to (fun p zs e => by
  by_cases c : q = p
  · subst c; exact ⟨_, get_put h⟩
  · exact ⟨zs, get_other e c⟩) (fun p zs e => by
  by_cases c : q = p
  · subst c; rw [h] at e; cases e
  · exact ⟨zs, get_other e c⟩) d k
theorem WrI.add {st : D} {nx : Fn} {ab : List Nat} {S : Mem → Prop} (g : Gen st ab S nx) {M : Mem} {W : List (List Nat)} {q n : Nat} {M' : Mem} (I : WrI ab S M W q n M') (hn : n ≤ 1000) {d : D} (hk : kn M' d) (hd : btB W d = false) : ∃ M2, appF (.v (.ref q)) (.v d) M' = some (.v .non, M2) ∧ WrI ab S M W q (n + 1) M2 := by
  obtain ⟨xs, h1, h2, h3, p, h4, h5⟩ := I.xs
  refine ⟨_, app_ref h1 (by omega), I.L.set g I.hq _, I.hq, xs ++ [d], get_put h1, by simp; omega, fun x hx => ?_, p, List.mem_append_left _ h4, h5⟩
  rcases List.mem_append.mp hx with hx | hx
  · exact ⟨kn_set h1 _ (h3 x hx).1, (h3 x hx).2⟩
  · simp at hx; subst hx; exact ⟨kn_set h1 _ hk, hd⟩
theorem WrI.isT {ab : List Nat} {S : Mem → Prop} {M : Mem} {W : List (List Nat)} {q n : Nat} {M' : Mem} (I : WrI ab S M W q n M') : isTyB "list" (.v (.ref q)) M' = true := by
  obtain ⟨xs, h1, _⟩ := I.xs
  exact isT_ref h1
theorem kIfS_J {A C : S} {ρ : Env} {M : Mem} {Q : R → Prop} {c : Bool} (J : Env → Mem → Prop) (h1 : c = true → WS A ρ M (fun r => ∃ ρ' M', r = .nx ρ' M' ∧ J ρ' M')) (h2 : c = false → J ρ M) (h3 : ∀ ρ' M', J ρ' M' → WS C ρ' M' Q) : kIfS A sNil ρ (kSeq C Q) c M := by
  cases c with
  | true =>
    obtain ⟨r, e, ρ', M', rfl, j⟩ := h1 rfl
    exact ⟨_, e, h3 ρ' M' j⟩
  | false => exact ⟨_, rfl, h3 ρ M (h2 rfl)⟩
theorem kFnRefNo {st : D} {ab : List Nat} {S : Mem → Prop} {nx : Fn} (g : Gen st ab S nx) {M M' : Mem} {q : Nat} {xs : List D} {K : PO2} (L : Loc ab S M M') (he : M'[q]? = some (.lst xs)) (hno : ∃ p, D.ref p ∈ xs ∧ M.length ≤ p) (hq : M.length ≤ q) (k : K (.v (.ref q)) M') : Q.kFn M K (.rt (.v (.ref q)) M') := by
  obtain ⟨M1, e, rfl, s1, f1⟩ := L.split g
  rw [kFn_rt]
  unfold Q.shut
  rw [if_pos (g.okM f1 s1 e)]
  have h1 : ¬ D.lo M.length (.ref q) := by simp; omega
  have h2 : ¬ Ob.lo M.length (.lst xs) := fun z => by
    obtain ⟨p, hp, hl⟩ := hno
    have := (loL_iff M.length xs).mp z _ hp
    simp at this; omega
  simp only [if_neg h1, he, if_neg h2]
  exact k
theorem wrong_w {st : D} {ab : List Nat} {S : Mem → Prop} (g : Gen st ab S m__law_next) {M : Mem} (h : S M) {W : List (List Nat)} {l : Nat} (hW : Mach W l) (hl : 0 < l) (hWl : W.length ≤ 30) {P : List Nat} (hp : P ∈ cpN W l W.length) {b : Nat} {ph : List Nat} (B : IsBt W P b ph) (hb : b ≤ 1000) {K : PO2}
    (k : ∀ q M', WrI ab S M W q 30 M' → K (.v (.ref q)) M') : WO (m__law_wrong [st, tM W, btD P b ph] M) K := by
  have chainJ : ∀ {A C : Q.S} {ρ : Env} {M : Mem} {Q : R → Prop} (J : Env → Mem → Prop), (∀ Q : R → Prop, (∀ ρ' M', J ρ' M' → Q (.nx ρ' M')) → WS A ρ M Q) → (∀ ρ' M', J ρ' M' → WS C ρ' M' Q) → WS (sSeq A C) ρ M Q := fun J h1 h2 => ws_seq.mpr (h1 _ fun ρ' M' j => h2 ρ' M' j)
  unfold m__law_wrong
  have hb0 := bt_pos B
  have hPl := B.rs.len
  have hP0 : 0 < P.length := List.length_pos_iff.mpr B.ne
  have hphl := B.len
  simp only [btD, wp, wx, wf, Nat.reduceSub, len_tN]
  refine (Loc.new h).w g hP0 (by omega) fun at_ M1 ha L1 o1 => ?_
  have ha2 : at_ < ph.length := by omega
  have s1 : ∀ (w : List Nat) (M : Mem), slF (.v (tN w)) none (some (at_ : Int)) M = some (.v (tN (w.take at_)), M) := fun w M => by rw [tN, sl_tup, cut_to (by omega), Int.toNat_natCast]; simp [tN, nats, List.map_take]
  have s2 : ∀ (w : List Nat) (M : Mem), slF (.v (tN w)) (some ((at_ : Int) + 1)) none M = some (.v (tN (w.drop (at_ + 1))), M) := fun w M => by
    rw [tN, sl_tup, cut_from (by omega)]
    have : ((at_ : Int) + 1).toNat = at_ + 1 := by omega
    rw [this]; simp [tN, nats, List.map_drop]
  have cat : ∀ (a c : List Nat) (M : Mem), a.length + c.length ≤ 1000 → addF (.v (tN a)) (.v (tN c)) M = some (.v (tN (a ++ c)), M) := fun a c M hz => by
    have hf : fits ((nats a).length + (nats c).length) := fits_of (by simp [nats]; omega)
    simp only [addF, tN, if_pos hf, nats, List.map_append]
  have catd : ∀ (a : List Nat) (d : D) (M : Mem), a.length ≤ 1000 → addF (.v (tN a)) (.v (.tup [d])) M = some (.v (.tup (nats a ++ [d])), M) := fun a d M hz => by
    have hf : fits ((nats a).length + 1) := fits_of (by simp [nats]; omega)
    simp only [addF, tN, List.length_cons, List.length_nil, Nat.zero_add, if_pos hf]
  have m1 : ∀ M : Mem, modF (.v (.int (((ph[at_] : Nat) : Int) + 1))) (.v (.int ((b : Int) + 1))) M = some (.v (.int (((ph[at_] + 1) % (b + 1) : Nat) : Int)), M) := fun M => by
    rw [mod_int, if_pos (by omega)]; rfl
  have n1 : ∀ v : Nat, D.tup [D.int (v : Int)] = tN [v] := fun v => rfl
  have n0 : D.tup [D.int 0] = tN [0] := rfl
  simp only [wp, wx, s1, ix_nat ha2, add_int, m1, n1]
  simp only [cat (ph.take at_) [(ph[at_] + 1) % (b + 1)] _ (by simp; omega), wp, wx, add_int, s2, cat (ph.take at_ ++ [(ph[at_] + 1) % (b + 1)]) (ph.drop (at_ + 1)) _ (by simp; omega)]
  have hgd : ph[at_] = ph.getD at_ 0 := by simp [List.getD, ha2]
  have bA := nb_oth hW hl hp B ha
  rw [← hgd] at bA
  generalize hoth : ph.take at_ ++ [(ph[at_] + 1) % (b + 1)] ++ ph.drop (at_ + 1) = oth at bA ⊢
  have big : ∀ (x y z : D), (∀ w, x = tN w → w = P → ∀ v : Nat, y = .int (v : Int) → ∀ u, z = tN u → u = ph → v = b → False) → True := fun _ _ _ _ => trivial
  have bbeat : ∀ v : Int, v ≠ (b : Int) → btB W (.tup [tN P, .int v, tN ph]) = false := fun v hv => nb fun P' b' ph' e B' => by
    obtain ⟨e1, e2, e3⟩ := btD_inv e
    have h1 := tN_injB e1
    have h3 := tN_injB e3
    subst h1 h3
    injection e2 with e2
    have := cov_b B B'
    omega
  simp only [wp, wx, add_int, pow_30]
  have hX0 : ∀ M' : Mem, ∀ d ∈ [D.tup [tN P, .int (b : Int), tN oth], .tup [tN P, .int ((b : Int) + 1), tN ph], .tup [tN P, .int 1000000000000000000000000000000, tN ph], .tup [tN P, .int 0, tN ph]], kn M' d ∧ btB W d = false := fun M' d hd => by
    simp only [List.mem_cons, List.not_mem_nil, or_false] at hd
    rcases hd with rfl | rfl | rfl | rfl
    · exact ⟨by simp, bA⟩
    · exact ⟨by simp, bbeat _ (by omega)⟩
    · exact ⟨by simp, bbeat _ (by omega)⟩
    · exact ⟨by simp, bbeat _ (by omega)⟩
  generalize hX0e : [D.tup [tN P, .int (b : Int), tN oth], .tup [tN P, .int ((b : Int) + 1), tN ph], .tup [tN P, .int 1000000000000000000000000000000, tN ph], .tup [tN P, .int 0, tN ph]] = X0 at hX0
  have hX0l : X0.length = 4 := by rw [← hX0e]; rfl
  have estr : ∀ M : Mem, strF (.v (.int (b : Int))) M = some (.v (.str (toString (b : Int))), M) := fun M => by
    have : (b : Int).natAbs < 2 ^ 40 := by rw [show (b : Int).natAbs = b by omega]; omega
    simp only [strF, if_pos this]
  have liw : ∀ (w : List Nat) (M : Mem), listF (.v (tN w)) M = some (.o (.lst (nats w)), M) := fun w M => by simp [listF, tN, seqOf]
  have L2 := L1.app g [Ob.lst X0]
  have hq2 : (M1 ++ [Ob.lst X0])[M1.length]? = some (.lst X0) := get_end rfl
  have hq2l : M.length ≤ M1.length := L1.le
  generalize M1.length = q0 at hq2 hq2l ⊢
  generalize M1 ++ [Ob.lst X0] = M2 at hq2 L2 ⊢
  simp only [wp, wx, estr, liw]
  rw [add_rl (get_app (get_app hq2)) (by simp [hX0l])]
  simp only [wp, wx]
  have hX1 : ∀ d ∈ X0 ++ [D.tup [tN P, .str (toString (b : Int)), tN ph], .tup [.ref M2.length, .int (b : Int), tN ph], .ref (M2 ++ [Ob.lst (nats P)]).length], kn (M2 ++ [Ob.lst (nats P)] ++ [Ob.lst [tN P, .int (b : Int), tN ph]]) d ∧ btB W d = false := fun d hd => by
    rcases List.mem_append.mp hd with hd | hd
    · exact hX0 _ d hd
    simp only [List.mem_cons, List.not_mem_nil, or_false] at hd
    rcases hd with rfl | rfl | rfl
    · exact ⟨by simp, nb fun P' b' ph' e B' => by have := (btD_inv e).2.1; cases this⟩
    · refine ⟨tup_kn fun y hy => ?_, nb fun P' b' ph' e B' => by have := (btD_inv e).1; cases this⟩
      simp only [List.mem_cons, List.not_mem_nil, or_false] at hy
      rcases hy with rfl | rfl | rfl
      · exact kn_lst (get_app (get_end rfl))
      · simp
      · simp
    · exact ⟨kn_lst (get_end rfl), nb fun P' b' ph' e B' => by cases e⟩
  have hr1 : ∃ p, D.ref p ∈ X0 ++ [D.tup [tN P, .str (toString (b : Int)), tN ph], .tup [.ref M2.length, .int (b : Int), tN ph], .ref (M2 ++ [Ob.lst (nats P)]).length] ∧ M.length ≤ p := ⟨(M2 ++ [Ob.lst (nats P)]).length, by simp, by have := L2.le; simp; omega⟩
  generalize hX1e : X0 ++ [D.tup [tN P, .str (toString (b : Int)), tN ph], .tup [.ref M2.length, .int (b : Int), tN ph], .ref (M2 ++ [Ob.lst (nats P)]).length] = X1 at hX1 hr1
  have hX1l : X1.length = 7 := by rw [← hX1e]; simp [hX0l]
  have L3 := ((L2.app g [Ob.lst (nats P)]).app g [Ob.lst [tN P, .int (b : Int), tN ph]])
  generalize M2 ++ [Ob.lst (nats P)] ++ [Ob.lst [tN P, .int (b : Int), tN ph]] = M3 at L3 hX1 ⊢
  have L4 := L3.app g [Ob.lst X1]
  have hq4 : (M3 ++ [Ob.lst X1])[M3.length]? = some (.lst X1) := get_end rfl
  have hq4l : M.length ≤ M3.length := L3.le
  replace hX1 : ∀ d ∈ X1, kn (M3 ++ [Ob.lst X1]) d ∧ btB W d = false := fun d hd => ⟨kn_app (hX1 d hd).1, (hX1 d hd).2⟩
  generalize M3.length = q4 at hq4 hq4l ⊢
  generalize M3 ++ [Ob.lst X1] = M4 at hq4 L4 hX1 ⊢
  simp only [wp, wx, liw, n0, cat ph [0] _ (show ph.length + 1 ≤ 1000 by omega)]
  rw [add_rl (get_app hq4) (by simp [hX1l])]
  simp only [wp, wx]
  have blen : ∀ (w u : List Nat) (y : D), u.length ≠ w.length → btB W (.tup [tN w, y, tN u]) = false := fun w u y hn => nb fun P' b' ph' e B' => by
    obtain ⟨e1, e2, e3⟩ := btD_inv e
    have h1 := tN_injB e1
    have h3 := tN_injB e3
    subst h1 h3
    exact hn B'.len
  have hX2 : ∀ d ∈ X1 ++ [D.tup [tN P, .int (b : Int), .ref M4.length], .tup [tN P, .int (b : Int), tN (ph ++ [0])], .tup [tN P, .int (b : Int)], .tup [tN P, .int (b : Int), tN ph, .int 0]], kn (M4 ++ [Ob.lst (nats ph)]) d ∧ btB W d = false := fun d hd => by
    rcases List.mem_append.mp hd with hd | hd
    · exact ⟨kn_app (hX1 d hd).1, (hX1 d hd).2⟩
    simp only [List.mem_cons, List.not_mem_nil, or_false] at hd
    rcases hd with rfl | rfl | rfl | rfl
    · refine ⟨tup_kn fun y hy => ?_, nb fun P' b' ph' e B' => by have := (btD_inv e).2.2; cases this⟩
      simp only [List.mem_cons, List.not_mem_nil, or_false] at hy
      rcases hy with rfl | rfl | rfl
      · simp
      · simp
      · exact kn_lst (get_end rfl)
    · exact ⟨by simp, blen _ _ _ (by simp; omega)⟩
    · exact ⟨by simp, nb fun P' b' ph' e B' => by unfold btD at e; simp at e⟩
    · exact ⟨by simp, nb fun P' b' ph' e B' => by unfold btD at e; simp at e⟩
  have hr2 : ∃ p, D.ref p ∈ X1 ++ [D.tup [tN P, .int (b : Int), .ref M4.length], .tup [tN P, .int (b : Int), tN (ph ++ [0])], .tup [tN P, .int (b : Int)], .tup [tN P, .int (b : Int), tN ph, .int 0]] ∧ M.length ≤ p := by obtain ⟨p, h1, h2⟩ := hr1; exact ⟨p, List.mem_append_left _ h1, h2⟩
  generalize hX2e : X1 ++ [D.tup [tN P, .int (b : Int), .ref M4.length], .tup [tN P, .int (b : Int), tN (ph ++ [0])], .tup [tN P, .int (b : Int)], .tup [tN P, .int (b : Int), tN ph, .int 0]] = X2 at hX2 hr2
  have hX2l : X2.length = 11 := by rw [← hX2e]; simp [hX1l]
  have L5 := (L4.app g [Ob.lst (nats ph)]).app g [Ob.lst X2]
  have hq5 : (M4 ++ [Ob.lst (nats ph)] ++ [Ob.lst X2])[(M4 ++ [Ob.lst (nats ph)]).length]? = some (.lst X2) := get_end rfl
  have hq5l : M.length ≤ (M4 ++ [Ob.lst (nats ph)]).length := by have := L4.le; simp; omega
  replace hX2 : ∀ d ∈ X2, kn (M4 ++ [Ob.lst (nats ph)] ++ [Ob.lst X2]) d ∧ btB W d = false := fun d hd => ⟨kn_app (hX2 d hd).1, (hX2 d hd).2⟩
  generalize (M4 ++ [Ob.lst (nats ph)]).length = q5 at hq5 hq5l ⊢
  generalize M4 ++ [Ob.lst (nats ph)] ++ [Ob.lst X2] = M5 at hq5 L5 hX2 ⊢
  have erev : ∀ (w : List Nat), w ≠ [] → ∀ M : Mem, revNF (.v (tN w)) M = some (.v (tN w.reverse), M) := fun w hw M => by
    cases w with
    | nil => exact absurd rfl hw
    | cons a w => simp [tN, nats, revNF]
  have hph0 : ph ≠ [] := fun z => by rw [z] at hphl; simp at hphl; omega
  simp only [wp, wx, len_tM, n1, n0, cat P [W.length] _ (show P.length + 1 ≤ 1000 by omega), cat ph [0] _ (show ph.length + 1 ≤ 1000 by omega), erev P B.ne, neg_one, catd P.reverse (.int (-1)) _ (by simp; omega)]
  rw [add_rl hq5 (by simp [hX2l])]
  have hX3 : ∀ d ∈ X2 ++ [D.tup [tN (P ++ [W.length]), .int (b : Int), tN (ph ++ [0])], .tup [.tup (nats P.reverse ++ [.int (-1)]), .int (b : Int), tN ph], .non, .int 0], kn M5 d ∧ btB W d = false := fun d hd => by
    rcases List.mem_append.mp hd with hd | hd
    · exact hX2 d hd
    simp only [List.mem_cons, List.not_mem_nil, or_false] at hd
    rcases hd with rfl | rfl | rfl | rfl
    · exact ⟨by simp, nb fun P' b' ph' e B' => by
        have := tN_injB (btD_inv e).1
        have h2 := B'.rs.lt W.length (by rw [← this]; simp)
        omega⟩
    · refine ⟨tup_kn fun y hy => ?_, nb fun P' b' ph' e B' => ?_⟩
      · simp only [List.mem_cons, List.not_mem_nil, or_false] at hy
        rcases hy with rfl | rfl | rfl
        · refine tup_kn fun z hz => ?_
          rcases List.mem_append.mp hz with hz | hz
          · obtain ⟨r, _, rfl⟩ := List.mem_map.mp hz; simp
          · simp at hz; subst hz; simp
        · simp
        · simp
      · have := (btD_inv e).1
        unfold tN at this
        injection this with this
        have h2 : D.int (-1) ∈ nats P' := by rw [← this]; simp
        obtain ⟨r, _, h3⟩ := List.mem_map.mp h2
        injection h3 with h3
        omega
    · exact ⟨by simp, nb fun P' b' ph' e B' => by cases e⟩
    · exact ⟨by simp, nb fun P' b' ph' e B' => by cases e⟩
  have hr3 : ∃ p, D.ref p ∈ X2 ++ [D.tup [tN (P ++ [W.length]), .int (b : Int), tN (ph ++ [0])], .tup [.tup (nats P.reverse ++ [.int (-1)]), .int (b : Int), tN ph], .non, .int 0] ∧ M.length ≤ p := by obtain ⟨p, h1, h2⟩ := hr2; exact ⟨p, List.mem_append_left _ h1, h2⟩
  generalize hX3e : X2 ++ [D.tup [tN (P ++ [W.length]), .int (b : Int), tN (ph ++ [0])], .tup [.tup (nats P.reverse ++ [.int (-1)]), .int (b : Int), tN ph], .non, .int 0] = X3 at hX3 hr3
  have hX3l : X3.length = 15 := by rw [← hX3e]; simp [hX2l]
  have I0 : WrI ab S M W M5.length 15 (M5 ++ [Ob.lst X3]) := ⟨L5.app g _, L5.le, X3, get_end rfl, by omega, fun d hd => ⟨kn_app (hX3 d hd).1, (hX3 d hd).2⟩, hr3⟩
  simp only [wp, wx, len_tN, gtF, cmp_int]
  generalize M5.length = q6 at I0 ⊢
  generalize M5 ++ [Ob.lst X3] = M6 at I0 ⊢
  refine kIfS_J (fun ρ' M' => ρ' = [some st, some (tM W), some (D.tup [tN P, D.int (b : Int), tN ph]), some (D.int (at_ : Int)), some (tN oth), some (D.ref q6), some (tN P), some (D.int (b : Int)), some (tN ph)] ∧ WrI ab S M W q6 17 M') (fun hc => ?_) (fun _ => ⟨rfl, I0.L, I0.hq, by obtain ⟨xs, h1, h2, h3⟩ := I0.xs; exact ⟨xs, h1, by omega, h3⟩⟩) (fun ρ' M' J => ?_)
  · have h1 : 1 < P.length := by simp at hc; omega
    obtain ⟨M7, e7, I7⟩ := I0.add g (by omega) (d := .tup [tN (P.take at_ ++ P.drop (at_ + 1)), .int (b : Int), tN (ph.take at_ ++ ph.drop (at_ + 1))]) (by simp) (nb_less hW hl hp ha h1 _ _)
    obtain ⟨M8, e8, I8⟩ := I7.add g (by omega) (d := .tup [tN P.reverse, .int (b : Int), tN ph.reverse]) (by simp) (nb fun P' b' ph' e B' => by
      have := tN_injB (btD_inv e).1
      have h2 := B'.rs.rise
      rw [← this, List.pairwise_reverse] at h2
      have h3 := B.rs.rise
      match P, h1 with
      | x :: y :: P, _ =>
        have a1 := (List.pairwise_cons.mp h2).1 y List.mem_cons_self
        have a2 := (List.pairwise_cons.mp h3).1 y List.mem_cons_self
        omega)
    simp only [wp, wx, I0.isT, s1, s2, add_int, cat (P.take at_) (P.drop (at_ + 1)) _ (by simp; omega), cat (ph.take at_) (ph.drop (at_ + 1)) _ (by simp; omega), e7, I7.isT, erev P B.ne, erev ph hph0, e8]
    exact ⟨_, _, rfl, rfl, I8⟩
  obtain ⟨rfl, I1⟩ := J
  simp only [wp, wx, eq_int]
  refine kIfS_J (fun ρ' M' => ρ' = [some st, some (tM W), some (D.tup [tN P, D.int (b : Int), tN ph]), some (D.int (at_ : Int)), some (tN oth), some (D.ref q6), some (tN P), some (D.int (b : Int)), some (tN ph)] ∧ WrI ab S M W q6 18 M') (fun hc => ?_) (fun _ => ⟨rfl, I1.L, I1.hq, by obtain ⟨xs, h1, h2, h3⟩ := I1.xs; exact ⟨xs, h1, by omega, h3⟩⟩) (fun ρ' M' J => ?_)
  · obtain ⟨M7, e7, I7⟩ := I1.add g (by omega) (d := .tup [tN P, .bl true, tN ph]) (by simp) (nb fun P' b' ph' e B' => by have := (btD_inv e).2.1; cases this)
    simp only [wp, wx, I1.isT, e7]
    exact ⟨_, _, rfl, rfl, I7⟩
  obtain ⟨rfl, I2⟩ := J
  have ix0 : ∀ M : Mem, ixF (.v (tN P)) (.v (.int 0)) M = some (.v (.int ((P[0] : Nat) : Int)), M) := fun M => ix_nat (r := 0) hP0 M
  simp only [wp, wx, ix0, ltF, cmp_int]
  refine kIfS_J (fun ρ' M' => ρ' = [some st, some (tM W), some (D.tup [tN P, D.int (b : Int), tN ph]), some (D.int (at_ : Int)), some (tN oth), some (D.ref q6), some (tN P), some (D.int (b : Int)), some (tN ph)] ∧ WrI ab S M W q6 19 M') (fun hc => ?_) (fun _ => ⟨rfl, I2.L, I2.hq, by obtain ⟨xs, h1, h2, h3⟩ := I2.xs; exact ⟨xs, h1, by omega, h3⟩⟩) (fun ρ' M' J => ?_)
  · have e9 : ∀ (x : D) (M : Mem), addF (.v (.tup [x])) (.v (tN (P.drop 1))) M = some (.v (.tup (x :: nats (P.drop 1))), M) := fun x M => by
      have hf : fits ([x].length + (nats (P.drop 1)).length) := fits_of (by simp [nats]; omega)
      simp only [addF, tN, if_pos hf]; rfl
    obtain ⟨M7, e7, I7⟩ := I2.add g (by omega) (d := .tup [.tup (.bl (decide (((P[0] : Nat) : Int) = 1)) :: nats (P.drop 1)), .int (b : Int), tN ph]) (tup_kn fun y hy => by
      simp only [List.mem_cons, List.not_mem_nil, or_false] at hy
      rcases hy with rfl | rfl | rfl
      · refine tup_kn fun z hz => ?_
        rcases List.mem_cons.mp hz with rfl | hz
        · simp
        · obtain ⟨r, _, rfl⟩ := List.mem_map.mp hz; simp
      · simp
      · simp) (nb fun P' b' ph' e B' => by
      have := (btD_inv e).1
      unfold tN at this
      injection this with this
      cases P' with
      | nil => simp [nats] at this
      | cons x P' => simp [nats] at this)
    simp only [wp, wx, I2.isT, ix0, eq_int, sl_one, e9, e7]
    exact ⟨_, _, rfl, rfl, I7⟩
  obtain ⟨rfl, I3⟩ := J
  have etr : ∀ M : Mem, ∃ ts : List D, m__law_truths [tN ph] M = some (.v (.tup ts), M) ∧ (∀ B : Mem, ∀ y ∈ ts, kn B y) ∧ ∃ c : Bool, .bl c ∈ ts := fun M => by
    refine ⟨ph.map fun (v : Nat) => if v < 2 then .bl (decide (v = 1)) else .int (v : Int), ?_, fun B y hy => ?_, ?_⟩
    · refine wo_eq ?_
      unfold m__law_truths
      simp only [wp, wx, wf, Nat.reduceSub, src_tN]
      refine wc_map (fun (v : Nat) => D.int (v : Int)) (fun (v : Nat) => if v < 2 then D.bl (decide (v = 1)) else D.int (v : Int)) ph (fun v hv => ?_) ?_
      · simp only [wp, wx, w__law_truths_E1, ltF, cmp_int]
        by_cases h : v < 2
        · have h' : decide ((v : Int) < 2) = true := decide_eq_true (by omega)
          simp only [h', wp, wx, eq_int]
          refine ⟨?_, rfl⟩
          rw [if_pos h]
          congr 2
          rw [Bool.eq_iff_iff, decide_eq_true_iff, decide_eq_true_iff]; omega
        · have h' : decide ((v : Int) < 2) = false := decide_eq_false (by omega)
          simp only [h', wp, wx]
          exact ⟨by rw [if_neg h], rfl⟩
      · simp only [wp, wx, tup_ol]
        rw [kFn_v (by
          simp only [lo_tup, loL_iff]
          intro d hd
          obtain ⟨v, _, rfl⟩ := List.mem_map.mp hd
          split <;> simp)]
        exact ⟨rfl, rfl⟩
    · obtain ⟨v, _, rfl⟩ := List.mem_map.mp hy
      split <;> simp
    · exact ⟨false, List.mem_map.mpr ⟨0, (B.cov 0).mpr hb0, by simp⟩⟩
  obtain ⟨ts, et1, et2, c, et3⟩ := etr M'
  obtain ⟨M7, e7, I7⟩ := I3.add g (by omega) (d := .tup [tN P, .int (b : Int), .tup ts]) (tup_kn fun y hy => by
    simp only [List.mem_cons, List.not_mem_nil, or_false] at hy
    rcases hy with rfl | rfl | rfl
    · simp
    · simp
    · exact tup_kn (et2 M')) (nb fun P' b' ph' e B' => by
    have := (btD_inv e).2.2
    unfold tN at this
    injection this with this
    rw [this] at et3
    obtain ⟨r, _, h⟩ := List.mem_map.mp et3
    cases h)
  simp only [wp, wx, I3.isT, et1, e7]
  obtain ⟨xs, h1, h2, h3, h4⟩ := I7.xs
  exact kFnRefNo g I7.L h1 h4 I7.hq (k q6 M7 ⟨I7.L, I7.hq, xs, h1, by omega, h3, h4⟩)
theorem enum_mapB {α : Type} (f : α → D) : ∀ (ys : List α) (i : Nat), enumD i (ys.map f) = (ys.zipIdx i).map fun p => D.par [.int ((p.2 : Nat) : Int), f p.1]
  | [], _ => by simp [enumD]
  | a :: ys, i => by
    have := enum_mapB f ys (i + 1)
    simp [enumD, this]
theorem parts_flat {W : List (List Nat)} {l : Nat} {Ps : List (List Nat)} (hn : Ps.Nodup) (hm : ∀ p ∈ Ps, p ∈ cpN W l W.length) : (Ps.flatMap fun p => p).Nodup := by
  induction Ps with
  | nil => simp
  | cons p Ps ih =>
    obtain ⟨h1, h2⟩ := List.nodup_cons.mp hn
    rw [List.flatMap_cons, List.nodup_append]
    refine ⟨?_, ih h2 fun q hq => hm q (List.mem_cons_of_mem _ hq), fun a ha b hb e => ?_⟩
    · exact (part_rs (hm p List.mem_cons_self)).1.rise.imp fun h => by omega
    · subst e
      obtain ⟨q, hq, haq⟩ := List.mem_flatMap.mp hb
      have := part_same (hm p List.mem_cons_self) (hm q (List.mem_cons_of_mem _ hq)) ha haq
      exact h1 (this ▸ hq)
theorem shb_parts {W : List (List Nat)} {l : Nat} (hW : Mach W l) (hl : 0 < l) {Ps : List (List Nat)} (hn : Ps.Nodup) (hm : ∀ p ∈ Ps, p ∈ cpN W l W.length) : shbB W (.tup (Ps.map (bD W))) = true :=
  shbB_iff.mpr ⟨Ps.map fun p => (p, btOf W p, phOf W p), by rw [List.map_map]; rfl, fun t ht => by
    obtain ⟨p, hp, rfl⟩ := List.mem_map.mp ht
    exact part_bt hW hl (hm p hp), by rw [List.flatMap_map]; exact parts_flat hn hm⟩
theorem kk1 {a b : Nat} {M M2 : Mem} (f : FrA [a, b] M M2) (s : S1 a b M) (s2 : S1 a b M2) {d : D} (h : kn M d) : kn M2 d := by
  obtain ⟨cs, t, a1, a2, _⟩ := s
  obtain ⟨cs', t', b1, b2, _⟩ := s2
  refine kn_to ?_ ?_ d h
  · intro q xs hq
    by_cases e0 : q = b
    · subst e0; exact ⟨_, b2⟩
    · by_cases e1 : q = a
      · subst e1; exact ⟨_, b1⟩
      · exact ⟨xs, by rw [f.2 q (get_lt hq) (by rw [List.mem_cons, List.mem_singleton]; omega)]; exact hq⟩
  · intro q xs hq
    by_cases e0 : q = b
    · subst e0; rw [a2] at hq; cases hq
    · by_cases e1 : q = a
      · subst e1; rw [a1] at hq; cases hq
      · exact ⟨xs, by rw [f.2 q (get_lt hq) (by rw [List.mem_cons, List.mem_singleton]; omega)]; exact hq⟩
theorem ext_ref {M : Mem} {q : Nat} {xs ys : List D} (h : M[q]? = some (.lst xs)) (hl : xs.length + ys.length ≤ 90000) : extF (.v (.ref q)) (.o (.lst ys)) M = some (.v .non, M.set q (.lst (xs ++ ys))) := by
  have hf : fits (xs.length + ys.length) := fits_of (by omega)
  simp only [extF, h, lstOf, Option.bind_some, if_pos hf]
theorem law_true (ns : List Int) (hns : ns.length ≤ 63) : ∃ m', m_law [.fl (ns.map .int)] [] = some (.v (.bl true), m') := by
  obtain ⟨⟨s, M0⟩, e0, st0, l0⟩ := begin_eq ns hns
  simp only at e0 st0 l0
  have g := gen1 1 0
  refine law_of ns ?_
  unfold m_law
  have hc : ((cutD (ns.map D.int) none (some 8)).length : Int) ≤ 8 := by rw [cut_to (by decide)]; simp; omega
  simp only [wp, wx, wf, Nat.reduceSub, e0, l0, sl_fl, len_ol, add_int]
  refine ⟨rgOk_of (by omega) (by omega), ?_⟩
  refine wl_rg0 (fun i ρ M => S1 1 0 M ∧ ∃ x2 x3 x4 x5 x6 x7 x8 x9 x10 x11, ρ = [some (.fl (ns.map .int)), some (.ref 1), x2, x3, x4, x5, x6, x7, x8, x9, x10, x11]) ⟨st0, _, _, _, _, _, _, _, _, _, _, rfl⟩ (fun i0 ρ M hi j => ?_) (fun ρ M j => ?_)
  · obtain ⟨sM, x2, x3, x4, x5, x6, x7, x8, x9, x10, x11, rfl⟩ := j
    simp only [wp, wx, w_law_F3]
    refine web_w g sM (mo := 26) (wy := 6) (by omega) (by omega) (by omega) (by omega) fun W l M1 hW h0 hb hl0 hl s1 f1 => ?_
    obtain ⟨Ps, I⟩ := ps_ex W l
    have hPl := I.len
    simp only [wp, wx]
    refine lbeats_w hW h0 hl0 (by omega) (by omega) I.eq I.mem (by omega) ?_
    simp only [wp, wx, src_tup]
    have knB : ∀ (Qs : List (List Nat)) (B : Mem), kn B (.tup (Qs.map (bD W))) := fun Qs B => tup_kn fun d hd => by
      obtain ⟨p, _, rfl⟩ := List.mem_map.mp hd
      simp [bD]
    refine wc_inv (fun i acc M' => Loc [1, 0] (S1 1 0) M1 M' ∧ ∃ Qs : List (List Nat), acc = Qs.map (bD W) ∧ Qs.Sublist (Ps.take i)) ⟨Loc.new s1, [], rfl, by simp⟩ (fun _ _ _ _ _ => chk_nil) (fun i x acc M' hx j => ?_) (fun acc M2 j => ?_)
    · obtain ⟨L, Qs, rfl, hs⟩ := j
      rw [List.getElem?_map] at hx
      obtain ⟨p, hp, rfl⟩ := Option.map_eq_some_iff.mp hx
      obtain ⟨hi, rfl⟩ := List.getElem?_eq_some_iff.mp hp
      have hst : Qs.Sublist (Ps.take (i + 1)) := hs.trans (by rw [List.take_add_one]; exact List.sublist_append_left _ _)
      have hst2 : (Qs ++ [Ps[i]]).Sublist (Ps.take (i + 1)) := by
        rw [List.take_add_one, List.getElem?_eq_getElem hi, Option.toList_some]
        exact hs.append (List.Sublist.refl _)
      simp only [wc, wp, wx, w_law_C1]
      refine L.w g (n := 2) (by omega) (by omega) fun r M3 hr L3 o3 => ?_
      simp only [wp, wx, eq_int]
      cases hd : decide ((r : Int) = 0) with
      | true =>
        simp only [wc, wp, wx, w_law_E5]
        exact ⟨L3, Qs ++ [Ps[i]], by simp, hst2⟩
      | false =>
        simp only [wc, wp, wx]
        exact ⟨L3, Qs, rfl, hst⟩
    obtain ⟨L2, Qs, rfl, hsub⟩ := j
    rw [List.length_map, List.take_length] at hsub
    have erv : ∀ M : Mem, revTF (.v (.tup (Ps.map (bD W)))) M = some (.v (.tup (Ps.reverse.map (bD W))), M) := fun M => by rw [List.map_reverse]; rfl
    simp only [wp, wx, tup_ol, erv, len_tM]
    refine ⟨rg_nat (by omega), ?_⟩
    rw [Int.toNat_natCast, mkT_rg]
    have hq5 : (M2 ++ [Ob.lst [D.tup [], .tup (Ps.map (bD W)), .tup (Qs.map (bD W)), .tup (Ps.reverse.map (bD W))]])[M2.length]? = some (.lst [D.tup [], .tup (Ps.map (bD W)), .tup (Qs.map (bD W)), .tup (Ps.reverse.map (bD W))]) := get_end rfl
    have emul : ∀ M : Mem, mulTF (.v (.tup [.int 0])) (.v (.int (W.length : Int))) M = some (.v (tN (List.replicate W.length 0)), M) := fun M => by
      rw [mulT_one h0 (by omega)]; simp [tN, nats]
    simp only [wp, wx, isT_ref hq5, len_tM, emul, app_ref hq5 (by simp)]
    have good0 : ∀ d ∈ [D.tup [], .tup (Ps.map (bD W)), .tup (Qs.map (bD W)), .tup (Ps.reverse.map (bD W))] ++ [.tup [.tup [tN (List.range W.length), .int 1, tN (List.replicate W.length 0)]]], (∀ B, kn B d) ∧ shbB W d = true ∧ lenD d ≤ 30 := fun d hd => by
      simp only [List.cons_append, List.nil_append, List.mem_cons, List.not_mem_nil, or_false] at hd
      rcases hd with rfl | rfl | rfl | rfl | rfl
      · exact ⟨fun B => by simp, shbB_iff.mpr ⟨[], rfl, by simp, by simp⟩, by simp [lenD]⟩
      · exact ⟨knB Ps, shb_parts hW hl0 I.nd I.mem, by simp [lenD]; omega⟩
      · exact ⟨knB Qs, shb_parts hW hl0 (hsub.nodup I.nd) fun p hp => I.mem p (hsub.subset hp), by have := hsub.length_le; simp [lenD]; omega⟩
      · exact ⟨knB _, shb_parts hW hl0 ((List.reverse_perm Ps).nodup_iff.mpr I.nd) fun p hp => I.mem p (List.mem_reverse.mp hp), by simp [lenD]; omega⟩
      · exact ⟨fun B => by simp, shbB_iff.mpr ⟨[(List.range W.length, 1, List.replicate W.length 0)], rfl, by simpa using bt_all hW h0, by simpa using List.nodup_range⟩, by simp [lenD]⟩
    have L3 := (L2.app g [Ob.lst [D.tup [], .tup (Ps.map (bD W)), .tup (Qs.map (bD W)), .tup (Ps.reverse.map (bD W))]]).set g L2.le (.lst ([D.tup [], .tup (Ps.map (bD W)), .tup (Qs.map (bD W)), .tup (Ps.reverse.map (bD W))] ++ [.tup [.tup [tN (List.range W.length), .int 1, tN (List.replicate W.length 0)]]]))
    have hq6 : ((M2 ++ [Ob.lst [D.tup [], .tup (Ps.map (bD W)), .tup (Qs.map (bD W)), .tup (Ps.reverse.map (bD W))]]).set M2.length (.lst ([D.tup [], .tup (Ps.map (bD W)), .tup (Qs.map (bD W)), .tup (Ps.reverse.map (bD W))] ++ [.tup [.tup [tN (List.range W.length), .int 1, tN (List.replicate W.length 0)]]])))[M2.length]? = some (.lst ([D.tup [], .tup (Ps.map (bD W)), .tup (Qs.map (bD W)), .tup (Ps.reverse.map (bD W))] ++ [.tup [.tup [tN (List.range W.length), .int 1, tN (List.replicate W.length 0)]]])) := get_put hq5
    have hlX : ([D.tup [], .tup (Ps.map (bD W)), .tup (Qs.map (bD W)), .tup (Ps.reverse.map (bD W))] ++ [D.tup [.tup [tN (List.range W.length), .int 1, tN (List.replicate W.length 0)]]]).length = 5 := rfl
    generalize [D.tup [], .tup (Ps.map (bD W)), .tup (Qs.map (bD W)), .tup (Ps.reverse.map (bD W))] ++ [D.tup [.tup [tN (List.range W.length), .int 1, tN (List.replicate W.length 0)]]] = X0 at L3 hq6 good0 hlX ⊢
    generalize (M2 ++ [Ob.lst [D.tup [], .tup (Ps.map (bD W)), .tup (Qs.map (bD W)), .tup (Ps.reverse.map (bD W))]]).set M2.length (.lst X0) = M3 at L3 hq6 ⊢
    have hq5l : M1.length ≤ M2.length := L2.le
    generalize M2.length = q5 at hq6 hq5l ⊢
    simp only [wp, wx, src_tup]
    refine wl_typ (bD W) Ps (fun i ρ M' => Loc [1, 0] (S1 1 0) M1 M' ∧ (∃ xs, M'[q5]? = some (.lst xs) ∧ xs.length ≤ 5 + 2 * i ∧ ∀ d ∈ xs, (∀ B, kn B d) ∧ shbB W d = true ∧ lenD d ≤ 30) ∧ ∃ x7 x10, ρ = [some (.fl (ns.map .int)), some (.ref 1), some (.int (i0 : Int)), some (tM W), some (.tup (Ps.map (bD W))), some (.ref q5), some (tN (List.range W.length)), x7, x8, x9, x10, x11]) ⟨L3, ⟨X0, hq6, by omega, good0⟩, _, _, rfl⟩ (fun i hi ρ M' j => ?_) (fun ρ M' j => ?_)
    · obtain ⟨L4, ⟨xs, h1, h2, h3⟩, x7, x10, rfl⟩ := j
      have B := part_bt hW hl0 (I.mem Ps[i] (List.getElem_mem hi))
      have hbl : btOf W Ps[i] ≤ 1000 := by
        have h1 := nodup_lenN (List.nodup_range (n := btOf W Ps[i])) (U := phOf W Ps[i]) fun x hx => (B.cov x).mpr (List.mem_range.mp hx)
        have h2 := B.len
        have h3 := B.rs.len
        simp at h1; omega
      simp only [bD_eq, wp, wx, w_law_F2, isT_ref h1]
      refine turned_w g L4.s B hbl fun p1 p2 d M5 B1 B2 s5 f5 => ?_
      obtain ⟨L5, o5⟩ := L4.step g s5 f5
      simp only [wp, wx, src_ol]
      refine wc_mapD (fun x => .tup [x]) [btD Ps[i] (btOf W Ps[i]) p1, btD Ps[i] d p2] (fun y hy => ?_) ?_
      · simp only [wp, wx, w_law_E4]
        exact ⟨rfl, rfl⟩
      have h5 := o5.get hq5l h1
      simp only [List.map_cons, List.map_nil, wp, wx, ext_ref h5 (show xs.length + [D.tup [btD Ps[i] (btOf W Ps[i]) p1], D.tup [btD Ps[i] d p2]].length ≤ 90000 by simp; omega)]
      refine ⟨L5.set g hq5l _, ⟨_, get_put h5, by simp; omega, fun z hz => ?_⟩, _, _, rfl⟩
      have one : ∀ {t : List Nat × Nat × List Nat}, IsBt W t.1 t.2.1 t.2.2 → shbB W (.tup [trD t]) = true := fun {t} Bt => shbB_iff.mpr ⟨[t], rfl, by simpa using Bt, by rw [List.flatMap_singleton]; exact Bt.rs.rise.imp fun h => by omega⟩
      rcases List.mem_append.mp hz with hz | hz
      · exact h3 z hz
      · simp only [List.mem_cons, List.not_mem_nil, or_false] at hz
        rcases hz with rfl | rfl
        · exact ⟨fun B => by simp [btD], one (t := (Ps[i], btOf W Ps[i], p1)) B1, by simp [lenD]⟩
        · exact ⟨fun B => by simp [btD], one (t := (Ps[i], d, p2)) B2, by simp [lenD]⟩
    obtain ⟨L4, ⟨xs, h1, h2, h3⟩, x7, x10, rfl⟩ := j
    simp only [wp, wx, src_ref h1]
    refine wc_invL (fun _ => .bl true) xs (chk_one h1) (fun y hy => ?_) ?_
    · obtain ⟨hk, hs, hz⟩ := h3 y hy
      have his : ∀ M : Mem, isF false (.v (.bl true)) (.v (.bl true)) M = some (.v (.bl true), M) := fun M => by simp [isF]
      simp only [wp, wx, w_law_E3, showsbeats_eq hW (by omega) (hk M') hz, hs, his]
      exact ⟨rfl, rfl⟩
    have lit : ∀ M : Mem, listF (.v (.tup (Ps.map (bD W)))) M = some (.o (.lst (Ps.map (bD W))), M) := fun M => by simp [listF, seqOf]
    have slt : ∀ M : Mem, slF (.v (.tup (Ps.map (bD W)))) none (some 1) M = some (.v (.tup ((Ps.take 1).map (bD W))), M) := fun M => by rw [sl_tup, cut_to (by decide), List.map_take]; rfl
    have catt : ∀ (a c : List D) (M : Mem), a.length + c.length ≤ 1000 → addF (.v (.tup a)) (.v (.tup c)) M = some (.v (.tup (a ++ c)), M) := fun a c M hz => by
      have hf : fits (a.length + c.length) := fits_of (by omega)
      simp only [addF, if_pos hf]
    simp only [wp, wx, all_trues, lit, slt, catt (Ps.map (bD W)) ((Ps.take 1).map (bD W)) _ (by simp; omega), len_tM, emul, catt (Ps.map (bD W)) [.tup [tN (List.range W.length), .int 1, tN (List.replicate W.length 0)]] _ (by simp; omega)]
    refine ⟨fits_of (by simp), ?_⟩
    have hne := I.ne h0
    have emp : ∀ Rs : List (List Nat), Rs.map (bD W) = (Rs.map fun p => (p, btOf W p, phOf W p)).map trD := fun Rs => by rw [List.map_map]; rfl
    have bad0 : ∀ d ∈ [D.ref M'.length, .tup (Ps.map (bD W) ++ (Ps.take 1).map (bD W)), .tup (Ps.map (bD W) ++ [.tup [tN (List.range W.length), .int 1, tN (List.replicate W.length 0)]]), .non, .int 0, .str "beats", .tup [.non], .tup [.tup []]], kn (M' ++ [Ob.lst (Ps.map (bD W))]) d ∧ shbB W d = false ∧ lenD d ≤ 30 := fun d hd => by
      simp only [List.mem_cons, List.not_mem_nil, or_false] at hd
      rcases hd with rfl | rfl | rfl | rfl | rfl | rfl | rfl | rfl
      · exact ⟨kn_lst (get_end rfl), shb_nt (by intro xs e; cases e), by simp [lenD]⟩
      · refine ⟨by rw [← List.map_append]; exact knB _ _, ?_, by simp [lenD]; omega⟩
        rw [Bool.eq_false_iff]
        intro z
        obtain ⟨T, e, _, hn⟩ := shbB_iff.mp z
        injection e with e
        rw [← List.map_append, emp] at e
        rw [← trDs_inj e, List.flatMap_map] at hn
        cases hP : Ps with
        | nil => exact hne hP
        | cons p Rs =>
          rw [hP] at hn
          obtain ⟨y, hy⟩ := List.exists_mem_of_ne_nil p (part_rs (I.mem p (by rw [hP]; simp))).2
          rw [List.flatMap_append, List.nodup_append] at hn
          exact hn.2.2 y (by rw [List.flatMap_cons]; exact List.mem_append_left _ hy) y (by simpa using hy) rfl
      · refine ⟨tup_kn fun y hy => ?_, ?_, by simp [lenD]; omega⟩
        · rcases List.mem_append.mp hy with hy | hy
          · exact kn_tup (knB Ps _) y hy
          · simp at hy; subst hy; simp
        · rw [Bool.eq_false_iff]
          intro z
          obtain ⟨T, e, _, hn⟩ := shbB_iff.mp z
          injection e with e
          rw [emp, show [D.tup [tN (List.range W.length), .int 1, tN (List.replicate W.length 0)]] = [(List.range W.length, 1, List.replicate W.length 0)].map trD from rfl, ← List.map_append] at e
          rw [← trDs_inj e, List.flatMap_append, List.nodup_append] at hn
          cases hP : Ps with
          | nil => exact hne hP
          | cons p Rs =>
            have hpr := part_rs (I.mem p (by rw [hP]; simp))
            obtain ⟨y, hy⟩ := List.exists_mem_of_ne_nil p hpr.2
            exact hn.2.2 y (by rw [hP, List.flatMap_map, List.flatMap_cons]; exact List.mem_append_left _ hy) y (by simpa using hpr.1.lt y hy) rfl
      · exact ⟨by simp, shb_nt (by intro xs e; cases e), by simp [lenD]⟩
      · exact ⟨by simp, shb_nt (by intro xs e; cases e), by simp [lenD]⟩
      · exact ⟨by simp, shb_nt (by intro xs e; cases e), by simp [lenD]⟩
      · exact ⟨by simp, shb_bad (d := .non) (by simp) (nb fun P' b' ph' e B' => by cases e), by simp [lenD]⟩
      · exact ⟨by simp, shb_bad (d := .tup []) (by simp) (nb fun P' b' ph' e B' => by unfold btD at e; simp at e), by simp [lenD]⟩
    have hlY : ([D.ref M'.length, .tup (Ps.map (bD W) ++ (Ps.take 1).map (bD W)), .tup (Ps.map (bD W) ++ [.tup [tN (List.range W.length), .int 1, tN (List.replicate W.length 0)]]), .non, .int 0, .str "beats", .tup [.non], .tup [.tup []]] : List D).length = 8 := rfl
    generalize [D.ref M'.length, .tup (Ps.map (bD W) ++ (Ps.take 1).map (bD W)), .tup (Ps.map (bD W) ++ [.tup [tN (List.range W.length), .int 1, tN (List.replicate W.length 0)]]), .non, .int 0, .str "beats", .tup [.non], .tup [.tup []]] = Y0 at bad0 hlY ⊢
    have L5 := (L4.app g [Ob.lst (Ps.map (bD W))]).app g [Ob.lst Y0]
    have hq8 : (M' ++ [Ob.lst (Ps.map (bD W))] ++ [Ob.lst Y0])[(M' ++ [Ob.lst (Ps.map (bD W))]).length]? = some (.lst Y0) := get_end rfl
    have hq8l : M1.length ≤ (M' ++ [Ob.lst (Ps.map (bD W))]).length := by have := L4.le; simp; omega
    replace bad0 : ∀ d ∈ Y0, kn (M' ++ [Ob.lst (Ps.map (bD W))] ++ [Ob.lst Y0]) d ∧ shbB W d = false ∧ lenD d ≤ 30 := fun d hd => ⟨kn_app (bad0 d hd).1, (bad0 d hd).2⟩
    generalize (M' ++ [Ob.lst (Ps.map (bD W))]).length = q8 at hq8 hq8l ⊢
    generalize M' ++ [Ob.lst (Ps.map (bD W))] ++ [Ob.lst Y0] = M6 at L5 hq8 bad0 ⊢
    have hen : ∀ M : Mem, enumOf (.v (.tup (Ps.map (bD W)))) M = some ⟨(Ps.zipIdx 0).map fun p => D.par [.int ((p.2 : Nat) : Int), bD W p.1], []⟩ := fun M => by simp only [enumOf, enum_mapB]
    have h2l : 2 ≤ M1.length := by
      have := g.ins M1 s1 1 (by simp); omega
    simp only [wp, wx, hen]
    refine wl_typ (fun p : List Nat × Nat => D.par [.int ((p.2 : Nat) : Int), bD W p.1]) (Ps.zipIdx 0) (fun i ρ M' => Loc [1, 0] (S1 1 0) M1 M' ∧ (∃ xs, M'[q8]? = some (.lst xs) ∧ xs.length ≤ 8 + 30 * i ∧ ∀ d ∈ xs, kn M' d ∧ shbB W d = false ∧ lenD d ≤ 30) ∧ ∃ x7 x9 x10, ρ = [some (.fl (ns.map .int)), some (.ref 1), some (.int (i0 : Int)), some (tM W), some (.tup (Ps.map (bD W))), some (.ref q5), some (tN (List.range W.length)), x7, some (.ref q8), x9, x10, x11]) ⟨L5, ⟨Y0, hq8, by omega, bad0⟩, _, _, _, rfl⟩ (fun i hi ρ M' j => ?_) (fun ρ M' j => ?_)
    · obtain ⟨L6, ⟨xs, h1, h2, h3⟩, x7, x9, x10, rfl⟩ := j
      have hi' : i < Ps.length := by simpa using hi
      have ez : (Ps.zipIdx 0)[i] = (Ps[i], i) := by simp
      rw [ez]
      have B := part_bt hW hl0 (I.mem Ps[i] (List.getElem_mem hi'))
      have hbl : btOf W Ps[i] ≤ 1000 := by
        have h1 := nodup_lenN (List.nodup_range (n := btOf W Ps[i])) (U := phOf W Ps[i]) fun x hx => (B.cov x).mpr (List.mem_range.mp hx)
        have h2 := B.len
        have h3 := B.rs.len
        simp at h1; omega
      simp only [bD_eq, wp, wx, w_law_F1, isT_ref h1]
      refine wrong_w g L6.s hW hl0 (by omega) (I.mem Ps[i] (List.getElem_mem hi')) B hbl fun q M7 IW => ?_
      obtain ⟨ys, y1, y2, y3, y4⟩ := IW.xs
      have L7 : Loc [1, 0] (S1 1 0) M1 M7 := ⟨L6.s0, IW.L.s, Nat.le_trans L6.le IW.L.le, fun p hp hab => (IW.L.fr.2 p (Nat.lt_of_lt_of_le hp L6.le) hab).trans (L6.fr.2 p hp hab)⟩
      have h7 : M7[q8]? = some (.lst xs) := by rw [IW.L.fr.2 q8 (get_lt h1) (by simp; omega)]; exact h1
      have s1 : ∀ M : Mem, slF (.v (.tup (Ps.map (bD W)))) none (some (i : Int)) M = some (.v (.tup ((Ps.take i).map (bD W))), M) := fun M => by rw [sl_tup, cut_to (by omega), Int.toNat_natCast, List.map_take]
      have s2 : ∀ M : Mem, slF (.v (.tup (Ps.map (bD W)))) (some ((i : Int) + 1)) none M = some (.v (.tup ((Ps.drop (i + 1)).map (bD W))), M) := fun M => by
        rw [sl_tup, cut_from (by omega)]
        have : ((i : Int) + 1).toNat = i + 1 := by omega
        rw [this, List.map_drop]
      simp only [← bD_eq] at *
      simp only [wp, wx, src_ref y1]
      refine wc_invL (fun y => .tup ((Ps.take i).map (bD W) ++ [y] ++ (Ps.drop (i + 1)).map (bD W))) ys (chk_one y1) (fun y hy => ?_) ?_
      · simp only [wp, wx, w_law_E2, s1, catt ((Ps.take i).map (bD W)) [y] _ (by simp; omega), add_int, s2, catt ((Ps.take i).map (bD W) ++ [y]) ((Ps.drop (i + 1)).map (bD W)) _ (by simp; omega)]
        exact ⟨rfl, rfl⟩
      simp only [wp, wx, ext_ref h7 (show xs.length + (ys.map fun y => D.tup ((Ps.take i).map (bD W) ++ [y] ++ (Ps.drop (i + 1)).map (bD W))).length ≤ 90000 by simp; omega)]
      refine ⟨L7.set g hq8l _, ⟨_, get_put h7, by simp; omega, fun z hz => ?_⟩, _, _, _, rfl⟩
      rcases List.mem_append.mp hz with hz | hz
      · exact ⟨kn_set h7 _ (kk1 IW.L.fr IW.L.s0 IW.L.s (h3 z hz).1), (h3 z hz).2⟩
      · obtain ⟨y, hy, rfl⟩ := List.mem_map.mp hz
        refine ⟨kn_set h7 _ (tup_kn fun w hw => ?_), shb_bad (d := y) (by simp) (y3 y hy).2, by simp [lenD]; omega⟩
        rcases List.mem_append.mp hw with hw | hw
        · rcases List.mem_append.mp hw with hw | hw
          · exact kn_tup (knB _ _) w hw
          · simp at hw; subst hw; exact (y3 _ hy).1
        · exact kn_tup (knB _ _) w hw
    obtain ⟨L6, ⟨xs, h1, h2, h3⟩, x7, x9, x10, rfl⟩ := j
    simp only [wp, wx, src_ref h1]
    refine wc_invL (fun _ => .bl true) xs (chk_one h1) (fun y hy => ?_) ?_
    · obtain ⟨hk, hs, hz⟩ := h3 y hy
      have his : ∀ M : Mem, isF false (.v (.bl false)) (.v (.bl false)) M = some (.v (.bl true), M) := fun M => by simp [isF]
      simp only [wp, wx, w_law_E1, showsbeats_eq hW (by omega) hk hz, hs, his]
      exact ⟨rfl, rfl⟩
    simp only [wp, wx, all_trues]
    exact ⟨L6.s, _, _, _, _, _, _, _, _, _, _, rfl⟩
  · obtain ⟨sM, x2, x3, x4, x5, x6, x7, x8, x9, x10, x11, rfl⟩ := j
    simp only [wp, wx]
    exact law_fin rfl
def topS (i : Nat) : Stmt := PySem.Challenge.pw_bringhome_k54_shown_beats_of_anything.main.body.getD i (.Pass ⟨0, 0, 0, 0⟩)
abbrev s_keeps_phases : Stmt := topS 7
theorem sc_keeps_phases : FnScope ["web", "part", "beat", "phases", "place", "goal"] ["web", "part", "beat", "phases", "place"] (defScope s_keeps_phases) := ⟨rfl, rfl, rfl, by decide +kernel, rfl, by decide +kernel, by decide +kernel⟩

abbrev s_is_whole : Stmt := topS 1
theorem sc_is_whole : FnScope ["thing"] ["thing"] (defScope s_is_whole) := ⟨rfl, rfl, rfl, by decide +kernel, rfl, by decide +kernel, by decide +kernel⟩

abbrev s_is_rising : Stmt := topS 3
theorem sc_is_rising : FnScope ["things", "one", "other"] ["things"] (defScope s_is_rising) := ⟨rfl, rfl, rfl, by decide +kernel, rfl, by decide +kernel, by decide +kernel⟩

abbrev s_is_row : Stmt := topS 2
theorem sc_is_row : FnScope ["thing", "many", "one"] ["thing", "many"] (defScope s_is_row) := ⟨rfl, rfl, rfl, by decide +kernel, rfl, by decide +kernel, by decide +kernel⟩

abbrev s_is_set : Stmt := topS 4
theorem sc_is_set : FnScope ["machine", "thing"] ["machine", "thing"] (defScope s_is_set) := ⟨rfl, rfl, rfl, by decide +kernel, rfl, by decide +kernel, by decide +kernel⟩

abbrev s_is_beat : Stmt := topS 6
theorem sc_is_beat : FnScope ["web", "thing", "part", "beat", "phases", "place", "one"] ["web", "thing"] (defScope s_is_beat) := ⟨rfl, rfl, rfl, by decide +kernel, rfl, by decide +kernel, by decide +kernel⟩

abbrev s_shows_beats : Stmt := topS 8
theorem sc_shows_beats : FnScope ["web", "told", "rooms", "part", "beat", "phases", "one"] ["web", "told"] (defScope s_shows_beats) := ⟨rfl, rfl, rfl, by decide +kernel, rfl, by decide +kernel, by decide +kernel⟩

abbrev s__law_truths : Stmt := topS 19
theorem sc__law_truths : FnScope ["_law_numbers", "_law_number"] ["_law_numbers"] (defScope s__law_truths) := ⟨rfl, rfl, rfl, by decide +kernel, rfl, by decide +kernel, by decide +kernel⟩

abbrev s__law_next : Stmt := topS 11
theorem sc__law_next : FnScope ["_law_state", "_law_many", "_law_digit"] ["_law_state", "_law_many"] (defScope s__law_next) := ⟨rfl, rfl, rfl, by decide +kernel, rfl, by decide +kernel, by decide +kernel⟩

abbrev s__law_wrong : Stmt := topS 20
theorem sc__law_wrong : FnScope ["_law_state", "_law_web_here", "_law_one", "_law_at", "_law_other", "_law_found", "_law_part", "_law_beat", "_law_phases_here"] ["_law_state", "_law_web_here", "_law_one"] (defScope s__law_wrong) := ⟨rfl, rfl, rfl, by decide +kernel, rfl, by decide +kernel, by decide +kernel⟩

abbrev s__law_turned : Stmt := topS 18
theorem sc__law_turned : FnScope ["_law_state", "_law_one", "_law_by", "_law_lesser", "_law_less", "_law_part", "_law_beat", "_law_phases_here", "_law_part_of", "_law_phase"] ["_law_state", "_law_one"] (defScope s__law_turned) := ⟨rfl, rfl, rfl, by decide +kernel, rfl, by decide +kernel, by decide +kernel⟩

abbrev s__law_leads : Stmt := topS 14
theorem sc__law_leads : FnScope ["_law_web_here", "_law_leads_here", "_law_middle", "_law_room", "_law_more", "_law_goal"] ["_law_web_here"] (defScope s__law_leads) := ⟨rfl, rfl, rfl, by decide +kernel, rfl, by decide +kernel, by decide +kernel⟩

abbrev s__law_parts : Stmt := topS 15
theorem sc__law_parts : FnScope ["_law_web_here", "_law_leads_here", "_law_found", "_law_room", "_law_part", "_law_other"] ["_law_web_here"] (defScope s__law_parts) := ⟨rfl, rfl, rfl, by decide +kernel, rfl, by decide +kernel, by decide +kernel⟩

abbrev s__law_phases : Stmt := topS 16
theorem sc__law_phases : FnScope ["_law_web_here", "_law_part", "_law_beat", "_law_phases_here", "_law_line", "_law_at", "_law_due", "_law_goal", "_law_room"] ["_law_web_here", "_law_part", "_law_beat"] (defScope s__law_phases) := ⟨rfl, rfl, rfl, by decide +kernel, rfl, by decide +kernel, by decide +kernel⟩

abbrev s__law_beats : Stmt := topS 17
theorem sc__law_beats : FnScope ["_law_web_here", "_law_found", "_law_part", "_law_beat"] ["_law_web_here"] (defScope s__law_beats) := ⟨rfl, rfl, rfl, by decide +kernel, rfl, by decide +kernel, by decide +kernel⟩

abbrev s__law_phased : Stmt := topS 12
theorem sc__law_phased : FnScope ["_law_state", "_law_low", "_law_many", "_law_beat", "_law_room", "_law_first"] ["_law_state", "_law_low", "_law_many", "_law_beat", "_law_room"] (defScope s__law_phased) := ⟨rfl, rfl, rfl, by decide +kernel, rfl, by decide +kernel, by decide +kernel⟩

abbrev s__law_web : Stmt := topS 13
theorem sc__law_web : FnScope ["_law_state", "_law_most", "_law_ways_most", "_law_rooms", "_law_ways", "_law_cuts", "_law_loose", "_law_rows", "_law_k", "_law_many", "_law_beat", "_law_room", "_law_goals", "_law_j"] ["_law_state", "_law_most", "_law_ways_most"] (defScope s__law_web) := ⟨rfl, rfl, rfl, by decide +kernel, rfl, by decide +kernel, by decide +kernel⟩

abbrev s__law_begin : Stmt := topS 10
theorem sc__law_begin : FnScope ["_law_script", "_law_seed", "_law_cell"] ["_law_script"] (defScope s__law_begin) := ⟨rfl, rfl, rfl, by decide +kernel, rfl, by decide +kernel, by decide +kernel⟩

abbrev s_law : Stmt := topS 21
theorem sc_law : FnScope ["_law_script", "_law_state", "_law_turn", "_law_web_here", "_law_told", "_law_right", "_law_rooms", "_law_one", "_law_wrong_here", "_law_at", "_law_other", "_law_some"] ["_law_script"] (defScope s_law) := ⟨rfl, rfl, rfl, by decide +kernel, rfl, by decide +kernel, by decide +kernel⟩

structure Top (K : PySem.W.Frag) (mg : Str → Option Value) : Prop where
  d_keeps_phases : Df K mg "keeps_phases" s_keeps_phases
  d_is_whole : Df K mg "is_whole" s_is_whole
  d_is_rising : Df K mg "is_rising" s_is_rising
  d_is_row : Df K mg "is_row" s_is_row
  d_is_set : Df K mg "is_set" s_is_set
  d_is_beat : Df K mg "is_beat" s_is_beat
  d_shows_beats : Df K mg "shows_beats" s_shows_beats
  d__law_truths : Df K mg "_law_truths" s__law_truths
  d__law_next : Df K mg "_law_next" s__law_next
  d__law_wrong : Df K mg "_law_wrong" s__law_wrong
  d__law_turned : Df K mg "_law_turned" s__law_turned
  d__law_leads : Df K mg "_law_leads" s__law_leads
  d__law_parts : Df K mg "_law_parts" s__law_parts
  d__law_phases : Df K mg "_law_phases" s__law_phases
  d__law_beats : Df K mg "_law_beats" s__law_beats
  d__law_phased : Df K mg "_law_phased" s__law_phased
  d__law_web : Df K mg "_law_web" s__law_web
  d__law_begin : Df K mg "_law_begin" s__law_begin
  b_abs : mg "abs" = none
  b_all : mg "all" = none
  b_bool : mg "bool" = none
  b_enumerate : mg "enumerate" = none
  b_int : mg "int" = none
  b_isinstance : mg "isinstance" = none
  b_len : mg "len" = none
  b_list : mg "list" = none
  b_max : mg "max" = none
  b_min : mg "min" = none
  b_range : mg "range" = none
  b_reversed : mg "reversed" = none
  b_set : mg "set" = none
  b_sorted : mg "sorted" = none
  b_str : mg "str" = none
  b_tuple : mg "tuple" = none
  b_zip : mg "zip" = none
section
variable {P : Program} {w : World} {K : PySem.W.Frag} {mg : Str → Option Value} {base : Heap}
theorem ok_keeps_phases (T : Top K mg) : Callee P w K mg base 1 "keeps_phases" 5 m_keeps_phases := mkC (k := 0) T.d_keeps_phases sc_keeps_phases rfl rfl (fun _ _ _ _ _ _ us hl => match us, hl with | [_, _, _, _, _], _ => rfl) fun f cdv A outer s H E hr =>
    (ss_cons (ss_for (ps_for PassesOwn.never rfl (we (ix_ (v_ 0) (ix_ (v_ 1) (v_ 4)))) (sg_name (nm_ 5 sc_keeps_phases.nd)) (ss_one (ss_if (t_w (w_or (t_nin hr (v_ 5) (v_ 1)) (w_or1 (t_ne hr (ix_ (v_ 3) (se_idxT (pe_tm PySem.F.slot_tuple_index PySem.F.type_tuple_index mt_idxT (v_ 1) (pa1 (v_ 5))))) (mod_ (add_ (ix_ (v_ 3) (v_ 4)) ci) (v_ 2)))))) (ss_one (ss_ret cb_)) ss_nil))))
    (ss_one (ss_ret cb_)))

theorem ok_is_whole (T : Top K mg) : Callee P w K mg base 1 "is_whole" 1 m_is_whole := mkC (k := 0) T.d_is_whole sc_is_whole rfl rfl (fun _ _ _ _ _ _ us hl => match us, hl with | [_], _ => rfl) fun f cdv A outer s H E hr =>
    (ss_one (ss_ret (and_ (isi_ .int T.b_isinstance (bt_ (t := .int) T.b_int) (v_ 0)) (one_ (not_ (isi_ .bool T.b_isinstance (bt_ (t := .bool) T.b_bool) (v_ 0)))))))

theorem ok_is_rising (T : Top K mg) : Callee P w K mg base 1 "is_rising" 1 m_is_rising := mkC (k := 0) T.d_is_rising sc_is_rising rfl rfl (fun _ _ _ _ _ _ us hl => match us, hl with | [_], _ => rfl) fun f cdv A outer s H E hr =>
    (ss_one (ss_ret (all_ T.b_all (se_comp (t := (.tp [1, 2])) (pe_lc (own := [("one", 1), ("other", 2)]) rfl sc_is_rising.nd (zip_ T.b_zip (v_ 0) (sl_ (v_ 0) (o1 ci) o0)) (blkOk_by (own := [("one", 1), ("other", 2)]) (by kernel_rfl)) (fun _ _ _ _ _ => (pg_tup rfl (pgs_cons (nm_ 1 sc_is_rising.nd) (pgs_cons (nm_ 2 sc_is_rising.nd) pgs_nil)))) (fun _ _ _ _ _ => sts_nil) (fun _ _ _ _ _ => (lt_ (v_ 1) (v_ 2)))) (by decide)))))

theorem ok_is_row (T : Top K mg) : Callee P w K mg base 2 "is_row" 2 m_is_row := mkC (k := 1) T.d_is_row sc_is_row rfl rfl (fun _ _ _ _ _ _ us hl => match us, hl with | [_, _], _ => rfl) fun f cdv A outer s H E hr =>
    (ss_one (ss_ret (and_ (isi_ .tuple T.b_isinstance (bt_ (t := .tuple) T.b_tuple) (v_ 0)) (one_ (all_ T.b_all (se_comp (t := (.nm 2)) (pe_lc (own := [("one", 2)]) rfl sc_is_row.nd (we (v_ 0)) (blkOk_by (own := [("one", 2)]) (by kernel_rfl)) (fun _ _ _ _ _ => (nm_ 2 sc_is_row.nd)) (fun _ _ _ _ _ => sts_nil) (fun _ _ _ _ _ => (and_ (call_ (ok_is_whole T) hr (by decide) (a1 (v_ 2) a0)) (one_ (ch_ op_le op_lt cmpU cmpU ci (v_ 2) (v_ 1)))))) (by decide)))))))

theorem ok_is_set (T : Top K mg) : Callee P w K mg base 3 "is_set" 2 m_is_set := mkC (k := 2) T.d_is_set sc_is_set rfl rfl (fun _ _ _ _ _ _ us hl => match us, hl with | [_, _], _ => rfl) fun f cdv A outer s H E hr =>
    (ss_one (ss_ret (and_ (call_ (ok_is_row T) hr (by decide) (a1 (v_ 1) (a1 (len_ T.b_len (v_ 0)) a0))) (and_ (gt_ (len_ T.b_len (v_ 1)) ci) (one_ (call_ (ok_is_rising T) hr (by decide) (a1 (v_ 1) a0)))))))

theorem ok_is_beat (T : Top K mg) : Callee P w K mg base 4 "is_beat" 2 m_is_beat := mkC (k := 3) T.d_is_beat sc_is_beat rfl rfl (fun _ _ _ _ _ _ us hl => match us, hl with | [_, _], _ => rfl) fun f cdv A outer s H E hr =>
    (ss_cons (ss_if (t_w (w_or (t_not (t_val (isi_ .tuple T.b_isinstance (bt_ (t := .tuple) T.b_tuple) (v_ 1)))) (w_or (t_ne hr (len_ T.b_len (v_ 1)) ci) (w_or (t_not (t_val (call_ (ok_is_set T) hr (by decide) (a1 (v_ 0) (a1 (ix_ (v_ 1) ci) a0))))) (w_or1 (t_not (t_val (call_ (ok_is_whole T) hr (by decide) (a1 (ix_ (v_ 1) ci) a0))))))))) (ss_one (ss_ret cb_)) ss_nil)
    (ss_cons (ss_put (ps_asg (v_ 1) (sg_tup (pg_tup rfl (pgs_cons (nm_ 2 sc_is_beat.nd) (pgs_cons (nm_ 3 sc_is_beat.nd) (pgs_cons (nm_ 4 sc_is_beat.nd) pgs_nil)))) rfl)))
    (ss_cons (ss_if (t_w (w_or (t_not (t_val (isi_ .tuple T.b_isinstance (bt_ (t := .tuple) T.b_tuple) (v_ 4)))) (w_or (t_ne hr (len_ T.b_len (v_ 4)) (len_ T.b_len (v_ 2))) (w_or1 (t_not (t_val (all_ T.b_all (se_comp (t := (.nm 6)) (pe_lc (own := [("one", 6)]) rfl sc_is_beat.nd (we (v_ 4)) (blkOk_by (own := [("one", 6)]) (by kernel_rfl)) (fun _ _ _ _ _ => (nm_ 6 sc_is_beat.nd)) (fun _ _ _ _ _ => sts_nil) (fun _ _ _ _ _ => (call_ (ok_is_whole T) hr (by decide) (a1 (v_ 6) a0)))) (by decide))))))))) (ss_one (ss_ret cb_)) ss_nil)
    (ss_cons (ss_if (t_w (w_or (t_ne hr (lnu_ T.b_len T.b_set (v_ 4)) (v_ 3)) (w_or (t_ne hr (min1_ hr T.b_min (v_ 4)) ci) (w_or1 (t_ne hr (max1_ hr T.b_max (v_ 4)) (sub_ (v_ 3) ci)))))) (ss_one (ss_ret cb_)) ss_nil)
    (ss_one (ss_ret (all_ T.b_all (se_comp (t := (.nm 5)) (pe_lc (own := [("place", 5)]) rfl sc_is_beat.nd (rg1_ T.b_range (len_ T.b_len (v_ 2))) (blkOk_by (own := [("place", 5)]) (by kernel_rfl)) (fun _ _ _ _ _ => (nm_ 5 sc_is_beat.nd)) (fun _ _ _ _ _ => sts_nil) (fun _ _ _ _ _ => (call_ (ok_keeps_phases T) hr (by decide) (a1 (v_ 0) (a1 (v_ 2) (a1 (v_ 3) (a1 (v_ 4) (a1 (v_ 5) a0)))))))) (by decide)))))))))

theorem ok_shows_beats (T : Top K mg) : Callee P w K mg base 5 "shows_beats" 2 m_shows_beats := mkC (k := 4) T.d_shows_beats sc_shows_beats rfl rfl (fun _ _ _ _ _ _ us hl => match us, hl with | [_, _], _ => rfl) fun f cdv A outer s H E hr =>
    (ss_cons (ss_if (t_w (w_or (t_not (t_val (isi_ .tuple T.b_isinstance (bt_ (t := .tuple) T.b_tuple) (v_ 1)))) (w_or1 (t_not (t_val (all_ T.b_all (se_comp (t := (.nm 6)) (pe_lc (own := [("one", 6)]) rfl sc_shows_beats.nd (we (v_ 1)) (blkOk_by (own := [("one", 6)]) (by kernel_rfl)) (fun _ _ _ _ _ => (nm_ 6 sc_shows_beats.nd)) (fun _ _ _ _ _ => sts_nil) (fun _ _ _ _ _ => (call_ (ok_is_beat T) hr (by decide) (a1 (v_ 0) (a1 (v_ 6) a0))))) (by decide)))))))) (ss_one (ss_ret cb_)) ss_nil)
    (ss_cons (ss_set (ps_set (i := 2) sc_shows_beats.nd rfl (.inl rfl) (lst_ a0)))
    (ss_cons (ss_for (ps_for PassesOwn.never rfl (we (v_ 1)) (sg_tup (pg_tup rfl (pgs_cons (nm_ 3 sc_shows_beats.nd) (pgs_cons (nm_ 4 sc_shows_beats.nd) (pgs_cons (nm_ 5 sc_shows_beats.nd) pgs_nil)))) rfl) (ss_one (ss_do (extT_ (pe_bm PySem.F.plainAttrs_list PySem.F.slot_list_extend PySem.F.type_list_extend mt_extendT (v_ 2) (pa1 (v_ 3)))) (ps_expr (extT_ (pe_bm PySem.F.plainAttrs_list PySem.F.slot_list_extend PySem.F.type_list_extend mt_extendT (v_ 2) (pa1 (v_ 3)))))))))
    (ss_one (ss_ret (eq_ hr (lns_ T.b_len T.b_set (v_ 2)) (len_ T.b_len (v_ 2))))))))

theorem ok__law_truths (T : Top K mg) : Callee P w K mg base 1 "_law_truths" 1 m__law_truths := mkC (k := 0) T.d__law_truths sc__law_truths rfl rfl (fun _ _ _ _ _ _ us hl => match us, hl with | [_], _ => rfl) fun f cdv A outer s H E hr =>
    (ss_one (ss_ret (tuple_ T.b_tuple (se_comp (t := (.nm 1)) (pe_lc (own := [("_law_number", 1)]) rfl sc__law_truths.nd (we (v_ 0)) (blkOk_by (own := [("_law_number", 1)]) (by kernel_rfl)) (fun _ _ _ _ _ => (nm_ 1 sc__law_truths.nd)) (fun _ _ _ _ _ => sts_nil) (fun _ _ _ _ _ => (if_ (t_lt (v_ 1) ci) (eq_ hr (v_ 1) ci) (v_ 1)))) (by decide)))))

theorem ok__law_next (T : Top K mg) : Callee P w K mg base 1 "_law_next" 2 m__law_next := mkC (k := 0) T.d__law_next sc__law_next rfl rfl (fun _ _ _ _ _ _ us hl => match us, hl with | [_, _], _ => rfl) fun f cdv A outer s H E hr =>
    (ss_cons (ss_while (ps_while PassesOwn.never (t_w (w_and (t_ne hr (ix_ (v_ 0) ci) (lst_ a0)) (w_and1 (t_eq hr (ix_ (ix_ (v_ 0) ci) ci) ci)))) (ss_one (ss_do (pop_ (pe_bm PySem.F.plainAttrs_list PySem.F.slot_list_pop PySem.F.type_list_pop mt_popAt (ix_ (v_ 0) ci) (pa1 ci))) (ps_expr (pop_ (pe_bm PySem.F.plainAttrs_list PySem.F.slot_list_pop PySem.F.type_list_pop mt_popAt (ix_ (v_ 0) ci) (pa1 ci))))))))
    (ss_cons (ss_if (t_ne hr (ix_ (v_ 0) ci) (lst_ a0)) (ss_cons (ss_set (ps_set (i := 2) sc__law_next.nd rfl (.inl rfl) (mod_ (ix_ (ix_ (v_ 0) ci) ci) (v_ 1))))
    (ss_cons (ss_put (ps_asg (div_ (ix_ (ix_ (v_ 0) ci) ci) (v_ 1)) (sg_ix (pg_sub (ix_ (v_ 0) ci) ci set_list))))
    (ss_one (ss_ret (v_ 2))))) ss_nil)
    (ss_cons (ss_put (ps_asg (mod_ (add_ (mul_ (ix_ (v_ 0) ci) ci) ci) ci) (sg_ix (pg_sub (v_ 0) ci set_list))))
    (ss_one (ss_ret (mod_ (div_ (mod_ (mul_ (ix_ (v_ 0) ci) (ix_ (v_ 0) ci)) ci) ci) (v_ 1)))))))

theorem ok__law_wrong (T : Top K mg) : Callee P w K mg base 2 "_law_wrong" 3 m__law_wrong := mkC (k := 1) T.d__law_wrong sc__law_wrong rfl rfl (fun _ _ _ _ _ _ us hl => match us, hl with | [_, _, _], _ => rfl) fun f cdv A outer s H E hr =>
    (ss_cons (ss_put (ps_asg (v_ 2) (sg_tup (pg_tup rfl (pgs_cons (nm_ 6 sc__law_wrong.nd) (pgs_cons (nm_ 7 sc__law_wrong.nd) (pgs_cons (nm_ 8 sc__law_wrong.nd) pgs_nil)))) rfl)))
    (ss_cons (ss_set (ps_set (i := 3) sc__law_wrong.nd rfl (.inl rfl) (call_ (ok__law_next T) hr (by decide) (a1 (v_ 0) (a1 (len_ T.b_len (v_ 6)) a0)))))
    (ss_cons (ss_set (ps_set (i := 4) sc__law_wrong.nd rfl (.inl rfl) (add_ (add_ (sl_ (v_ 8) o0 (o1 (v_ 3))) (tup_ (a1 (mod_ (add_ (ix_ (v_ 8) (v_ 3)) ci) (add_ (v_ 7) ci)) a0))) (sl_ (v_ 8) (o1 (add_ (v_ 3) ci)) o0))))
    (ss_cons (ss_set (ps_set (i := 5) sc__law_wrong.nd rfl (.inl rfl) (lst_ (a1 (tup_ (a1 (v_ 6) (a1 (v_ 7) (a1 (v_ 4) a0)))) (a1 (tup_ (a1 (v_ 6) (a1 (add_ (v_ 7) ci) (a1 (v_ 8) a0)))) (a1 (tup_ (a1 (v_ 6) (a1 (pow_ ci ci) (a1 (v_ 8) a0)))) (a1 (tup_ (a1 (v_ 6) (a1 ci (a1 (v_ 8) a0)))) a0)))))))
    (ss_cons (ss_set (ps_set (i := 5) sc__law_wrong.nd rfl (.inl rfl) (add_ (v_ 5) (lst_ (a1 (tup_ (a1 (v_ 6) (a1 (str_ T.b_str (v_ 7)) (a1 (v_ 8) a0)))) (a1 (tup_ (a1 (list_ T.b_list (v_ 6)) (a1 (v_ 7) (a1 (v_ 8) a0)))) (a1 (lst_ (a1 (v_ 6) (a1 (v_ 7) (a1 (v_ 8) a0)))) a0)))))))
    (ss_cons (ss_set (ps_set (i := 5) sc__law_wrong.nd rfl (.inl rfl) (add_ (v_ 5) (lst_ (a1 (tup_ (a1 (v_ 6) (a1 (v_ 7) (a1 (list_ T.b_list (v_ 8)) a0)))) (a1 (tup_ (a1 (v_ 6) (a1 (v_ 7) (a1 (add_ (v_ 8) (tup_ (a1 ci a0))) a0)))) (a1 (tup_ (a1 (v_ 6) (a1 (v_ 7) a0))) (a1 (tup_ (a1 (v_ 6) (a1 (v_ 7) (a1 (v_ 8) (a1 ci a0))))) a0))))))))
    (ss_cons (ss_set (ps_set (i := 5) sc__law_wrong.nd rfl (.inl rfl) (add_ (v_ 5) (lst_ (a1 (tup_ (a1 (add_ (v_ 6) (tup_ (a1 (len_ T.b_len (v_ 1)) a0))) (a1 (v_ 7) (a1 (add_ (v_ 8) (tup_ (a1 ci a0))) a0)))) (a1 (tup_ (a1 (add_ (tupRev_ rfl T.b_tuple T.b_reversed (v_ 6)) (tup_ (a1 (neg_ ci) a0))) (a1 (v_ 7) (a1 (v_ 8) a0)))) (a1 cn (a1 ci a0))))))))
    (ss_cons (ss_if (t_gt (len_ T.b_len (v_ 6)) ci) (ss_cons (ss_do (app_ (pe_bm PySem.F.plainAttrs_list PySem.F.slot_list_append PySem.F.type_list_append mt_append (v_ 5) (pa1 (tup_ (a1 (add_ (sl_ (v_ 6) o0 (o1 (v_ 3))) (sl_ (v_ 6) (o1 (add_ (v_ 3) ci)) o0)) (a1 (v_ 7) (a1 (add_ (sl_ (v_ 8) o0 (o1 (v_ 3))) (sl_ (v_ 8) (o1 (add_ (v_ 3) ci)) o0)) a0))))))) (ps_expr (app_ (pe_bm PySem.F.plainAttrs_list PySem.F.slot_list_append PySem.F.type_list_append mt_append (v_ 5) (pa1 (tup_ (a1 (add_ (sl_ (v_ 6) o0 (o1 (v_ 3))) (sl_ (v_ 6) (o1 (add_ (v_ 3) ci)) o0)) (a1 (v_ 7) (a1 (add_ (sl_ (v_ 8) o0 (o1 (v_ 3))) (sl_ (v_ 8) (o1 (add_ (v_ 3) ci)) o0)) a0)))))))))
    (ss_one (ss_do (app_ (pe_bm PySem.F.plainAttrs_list PySem.F.slot_list_append PySem.F.type_list_append mt_append (v_ 5) (pa1 (tup_ (a1 (tupRev_ rfl T.b_tuple T.b_reversed (v_ 6)) (a1 (v_ 7) (a1 (tupRev_ rfl T.b_tuple T.b_reversed (v_ 8)) a0))))))) (ps_expr (app_ (pe_bm PySem.F.plainAttrs_list PySem.F.slot_list_append PySem.F.type_list_append mt_append (v_ 5) (pa1 (tup_ (a1 (tupRev_ rfl T.b_tuple T.b_reversed (v_ 6)) (a1 (v_ 7) (a1 (tupRev_ rfl T.b_tuple T.b_reversed (v_ 8)) a0))))))))))) ss_nil)
    (ss_cons (ss_if (t_eq hr (v_ 7) ci) (ss_one (ss_do (app_ (pe_bm PySem.F.plainAttrs_list PySem.F.slot_list_append PySem.F.type_list_append mt_append (v_ 5) (pa1 (tup_ (a1 (v_ 6) (a1 cb_ (a1 (v_ 8) a0))))))) (ps_expr (app_ (pe_bm PySem.F.plainAttrs_list PySem.F.slot_list_append PySem.F.type_list_append mt_append (v_ 5) (pa1 (tup_ (a1 (v_ 6) (a1 cb_ (a1 (v_ 8) a0)))))))))) ss_nil)
    (ss_cons (ss_if (t_lt (ix_ (v_ 6) ci) ci) (ss_one (ss_do (app_ (pe_bm PySem.F.plainAttrs_list PySem.F.slot_list_append PySem.F.type_list_append mt_append (v_ 5) (pa1 (tup_ (a1 (add_ (tup_ (a1 (eq_ hr (ix_ (v_ 6) ci) ci) a0)) (sl_ (v_ 6) (o1 ci) o0)) (a1 (v_ 7) (a1 (v_ 8) a0))))))) (ps_expr (app_ (pe_bm PySem.F.plainAttrs_list PySem.F.slot_list_append PySem.F.type_list_append mt_append (v_ 5) (pa1 (tup_ (a1 (add_ (tup_ (a1 (eq_ hr (ix_ (v_ 6) ci) ci) a0)) (sl_ (v_ 6) (o1 ci) o0)) (a1 (v_ 7) (a1 (v_ 8) a0)))))))))) ss_nil)
    (ss_cons (ss_do (app_ (pe_bm PySem.F.plainAttrs_list PySem.F.slot_list_append PySem.F.type_list_append mt_append (v_ 5) (pa1 (tup_ (a1 (v_ 6) (a1 (v_ 7) (a1 (call_ (ok__law_truths T) hr (by decide) (a1 (v_ 8) a0)) a0))))))) (ps_expr (app_ (pe_bm PySem.F.plainAttrs_list PySem.F.slot_list_append PySem.F.type_list_append mt_append (v_ 5) (pa1 (tup_ (a1 (v_ 6) (a1 (v_ 7) (a1 (call_ (ok__law_truths T) hr (by decide) (a1 (v_ 8) a0)) a0)))))))))
    (ss_one (ss_ret (v_ 5))))))))))))))

theorem ok__law_turned (T : Top K mg) : Callee P w K mg base 2 "_law_turned" 2 m__law_turned := mkC (k := 1) T.d__law_turned sc__law_turned rfl rfl (fun _ _ _ _ _ _ us hl => match us, hl with | [_, _], _ => rfl) fun f cdv A outer s H E hr =>
    (ss_cons (ss_put (ps_asg (v_ 1) (sg_tup (pg_tup rfl (pgs_cons (nm_ 5 sc__law_turned.nd) (pgs_cons (nm_ 6 sc__law_turned.nd) (pgs_cons (nm_ 7 sc__law_turned.nd) pgs_nil)))) rfl)))
    (ss_cons (ss_set (ps_set (i := 2) sc__law_turned.nd rfl (.inr rfl) (call_ (ok__law_next T) hr (by decide) (a1 (v_ 0) (a1 (v_ 6) a0)))))
    (ss_cons (ss_setComp (t := (.nm 8)) (ps_setLc (i := 3) (own := [("_law_part_of", 8)]) rfl sc__law_turned.nd rfl rfl (sw_true rfl rfl rfl (by kernel_rfl)) (rg2_ T.b_range ci (add_ (v_ 6) ci)) (blkOk_by (own := [("_law_part_of", 8)]) (by kernel_rfl)) (fun _ _ _ _ _ => (nm_ 8 sc__law_turned.nd)) (fun _ _ _ _ _ => (sts_one (t_eq hr (mod_ (v_ 6) (v_ 8)) ci))) (fun _ _ _ _ _ => (v_ 8))) (by decide))
    (ss_cons (ss_set (ps_set (i := 4) sc__law_turned.nd rfl (.inr rfl) (ix_ (v_ 3) (call_ (ok__law_next T) hr (by decide) (a1 (v_ 0) (a1 (len_ T.b_len (v_ 3)) a0))))))
    (ss_one (ss_ret (lst_ (a1 (tup_ (a1 (v_ 5) (a1 (v_ 6) (a1 (tuple_ T.b_tuple (se_comp (t := (.nm 9)) (pe_lc (own := [("_law_phase", 9)]) rfl sc__law_turned.nd (we (v_ 7)) (blkOk_by (own := [("_law_phase", 9)]) (by kernel_rfl)) (fun _ _ _ _ _ => (nm_ 9 sc__law_turned.nd)) (fun _ _ _ _ _ => sts_nil) (fun _ _ _ _ _ => (mod_ (add_ (v_ 9) (v_ 2)) (v_ 6)))) (by decide))) a0)))) (a1 (tup_ (a1 (v_ 5) (a1 (v_ 4) (a1 (tuple_ T.b_tuple (se_comp (t := (.nm 9)) (pe_lc (own := [("_law_phase", 9)]) rfl sc__law_turned.nd (we (v_ 7)) (blkOk_by (own := [("_law_phase", 9)]) (by kernel_rfl)) (fun _ _ _ _ _ => (nm_ 9 sc__law_turned.nd)) (fun _ _ _ _ _ => sts_nil) (fun _ _ _ _ _ => (mod_ (v_ 9) (v_ 4)))) (by decide))) a0)))) a0)))))))))

theorem ok__law_leads (T : Top K mg) : Callee P w K mg base 1 "_law_leads" 1 m__law_leads := mkC (k := 0) T.d__law_leads sc__law_leads rfl rfl (fun _ _ _ _ _ _ us hl => match us, hl with | [_], _ => rfl) fun f cdv A outer s H E hr =>
    (ss_cons (ss_set (ps_set (i := 1) sc__law_leads.nd rfl (.inr rfl) (se_comp (t := (.nm 3)) (pe_lc (own := [("_law_room", 3)]) rfl sc__law_leads.nd (rg1_ T.b_range (len_ T.b_len (v_ 0))) (blkOk_by (own := [("_law_room", 3)]) (by kernel_rfl)) (fun _ _ _ _ _ => (nm_ 3 sc__law_leads.nd)) (fun _ _ _ _ _ => sts_nil) (fun _ _ _ _ _ => (add_ (lst_ (a1 (v_ 3) a0)) (se_comp (t := (.nm 5)) (pe_lc (own := [("_law_goal", 5)]) rfl sc__law_leads.nd (we (sos_ T.b_sorted T.b_set (ix_ (v_ 0) (v_ 3)))) (blkOk_by (own := [("_law_goal", 5)]) (by kernel_rfl)) (fun _ _ _ _ _ => (nm_ 5 sc__law_leads.nd)) (fun _ _ _ _ _ => (sts_one (t_ne hr (v_ 5) (v_ 3)))) (fun _ _ _ _ _ => (v_ 5))) (by decide))))) (by decide))))
    (ss_cons (ss_for (ps_for PassesOwn.never rfl (rg1_ T.b_range (len_ T.b_len (v_ 0))) (sg_name (nm_ 2 sc__law_leads.nd)) (ss_one (ss_for (ps_for PassesOwn.never rfl (rg1_ T.b_range (len_ T.b_len (v_ 0))) (sg_name (nm_ 3 sc__law_leads.nd)) (ss_one (ss_if (t_in hr (v_ 2) (ix_ (v_ 1) (v_ 3))) (ss_cons (ss_setComp (t := (.nm 5)) (ps_setLc (i := 4) (own := [("_law_goal", 5)]) rfl sc__law_leads.nd rfl rfl (sw_true rfl rfl rfl (by kernel_rfl)) (we (ix_ (v_ 1) (v_ 2))) (blkOk_by (own := [("_law_goal", 5)]) (by kernel_rfl)) (fun _ _ _ _ _ => (nm_ 5 sc__law_leads.nd)) (fun _ _ _ _ _ => (sts_one (t_nin hr (v_ 5) (ix_ (v_ 1) (v_ 3))))) (fun _ _ _ _ _ => (v_ 5))) (by decide))
    (ss_one (ss_put (ps_asg (add_ (ix_ (v_ 1) (v_ 3)) (v_ 4)) (sg_ix (pg_sub (v_ 1) (v_ 3) set_list)))))) ss_nil)))))))
    (ss_one (ss_ret (v_ 1)))))

theorem ok__law_parts (T : Top K mg) : Callee P w K mg base 2 "_law_parts" 1 m__law_parts := mkC (k := 1) T.d__law_parts sc__law_parts rfl rfl (fun _ _ _ _ _ _ us hl => match us, hl with | [_], _ => rfl) fun f cdv A outer s H E hr =>
    (ss_cons (ss_set (ps_set (i := 1) sc__law_parts.nd rfl (.inr rfl) (call_ (ok__law_leads T) hr (by decide) (a1 (v_ 0) a0))))
    (ss_cons (ss_set (ps_set (i := 2) sc__law_parts.nd rfl (.inl rfl) (lst_ a0)))
    (ss_cons (ss_for (ps_for PassesOwn.never rfl (rg1_ T.b_range (len_ T.b_len (v_ 0))) (sg_name (nm_ 3 sc__law_parts.nd)) (ss_cons (ss_set (ps_set (i := 4) sc__law_parts.nd rfl (.inl rfl) (tuple_ T.b_tuple (srt_ hr T.b_sorted (ix_ (v_ 1) (v_ 3))))))
    (ss_one (ss_if (t_w (w_and (t_nin hr (v_ 4) (v_ 2)) (w_and1 (t_val (all_ T.b_all (se_comp (t := (.nm 5)) (pe_lc (own := [("_law_other", 5)]) rfl sc__law_parts.nd (we (v_ 4)) (blkOk_by (own := [("_law_other", 5)]) (by kernel_rfl)) (fun _ _ _ _ _ => (nm_ 5 sc__law_parts.nd)) (fun _ _ _ _ _ => sts_nil) (fun _ _ _ _ _ => (in_ hr (v_ 3) (ix_ (v_ 1) (v_ 5))))) (by decide))))))) (ss_one (ss_do (app_ (pe_bm PySem.F.plainAttrs_list PySem.F.slot_list_append PySem.F.type_list_append mt_append (v_ 2) (pa1 (v_ 4)))) (ps_expr (app_ (pe_bm PySem.F.plainAttrs_list PySem.F.slot_list_append PySem.F.type_list_append mt_append (v_ 2) (pa1 (v_ 4))))))) ss_nil)))))
    (ss_one (ss_ret (srt_ hr T.b_sorted (v_ 2)))))))

theorem ok__law_phases (T : Top K mg) : Callee P w K mg base 1 "_law_phases" 3 m__law_phases := mkC (k := 0) T.d__law_phases sc__law_phases rfl rfl (fun _ _ _ _ _ _ us hl => match us, hl with | [_, _, _], _ => rfl) fun f cdv A outer s H E hr =>
    (ss_cons (ss_set (ps_set (i := 3) sc__law_phases.nd rfl (.inr rfl) (se_disp hr (ix_ (v_ 1) ci) ci)))
    (ss_cons (ss_set (ps_set (i := 4) sc__law_phases.nd rfl (.inl rfl) (lst_ (a1 (ix_ (v_ 1) ci) a0))))
    (ss_cons (ss_set (ps_set (i := 5) sc__law_phases.nd rfl (.inl rfl) ci))
    (ss_cons (ss_while (ps_while PassesOwn.never (t_lt (v_ 5) (len_ T.b_len (v_ 4))) (ss_cons (ss_set (ps_set (i := 6) sc__law_phases.nd rfl (.inl rfl) (mod_ (add_ (dix_ hr (v_ 3) (ix_ (v_ 4) (v_ 5))) ci) (v_ 2))))
    (ss_cons (ss_for (ps_for PassesOwn.never rfl (we (ix_ (v_ 0) (ix_ (v_ 4) (v_ 5)))) (sg_name (nm_ 7 sc__law_phases.nd)) (ss_cons (ss_if (t_dnin hr (v_ 7) (v_ 3)) (ss_cons (ss_put (ps_asg (v_ 6) (sg_dx (pg_sub (v_ 3) (v_ 7) (set_raw (u65 hr))))))
    (ss_one (ss_do (app_ (pe_bm PySem.F.plainAttrs_list PySem.F.slot_list_append PySem.F.type_list_append mt_append (v_ 4) (pa1 (v_ 7)))) (ps_expr (app_ (pe_bm PySem.F.plainAttrs_list PySem.F.slot_list_append PySem.F.type_list_append mt_append (v_ 4) (pa1 (v_ 7)))))))) ss_nil)
    (ss_one (ss_if (t_ne hr (dix_ hr (v_ 3) (v_ 7)) (v_ 6)) (ss_one (ss_ret cn)) ss_nil)))))
    (ss_one (ss_aug (ps_aug (i := 5) sc__law_phases.nd rfl (.inl rfl) ci ip_add) augAddU))))))
    (ss_one (ss_ret (tuple_ T.b_tuple (se_comp (t := (.nm 8)) (pe_lc (own := [("_law_room", 8)]) rfl sc__law_phases.nd (we (v_ 1)) (blkOk_by (own := [("_law_room", 8)]) (by kernel_rfl)) (fun _ _ _ _ _ => (nm_ 8 sc__law_phases.nd)) (fun _ _ _ _ _ => sts_nil) (fun _ _ _ _ _ => (dix_ hr (v_ 3) (v_ 8)))) (by decide)))))))))

theorem ok__law_beats (T : Top K mg) : Callee P w K mg base 3 "_law_beats" 1 m__law_beats := mkC (k := 2) T.d__law_beats sc__law_beats rfl rfl (fun _ _ _ _ _ _ us hl => match us, hl with | [_], _ => rfl) fun f cdv A outer s H E hr =>
    (ss_cons (ss_set (ps_set (i := 1) sc__law_beats.nd rfl (.inl rfl) (lst_ a0)))
    (ss_cons (ss_for (ps_for PassesOwn.never rfl (we (call_ (ok__law_parts T) hr (by decide) (a1 (v_ 0) a0))) (sg_name (nm_ 2 sc__law_beats.nd)) (ss_cons (ss_set (ps_set (i := 3) sc__law_beats.nd rfl (.inl rfl) (len_ T.b_len (v_ 2))))
    (ss_cons (ss_while (ps_while PassesOwn.never (t_is (call_ (ok__law_phases T) hr (by decide) (a1 (v_ 0) (a1 (v_ 2) (a1 (v_ 3) a0)))) cn) (ss_one (ss_aug (ps_aug (i := 3) sc__law_beats.nd rfl (.inl rfl) ci ip_sub) augSubU))))
    (ss_one (ss_do (app_ (pe_bm PySem.F.plainAttrs_list PySem.F.slot_list_append PySem.F.type_list_append mt_append (v_ 1) (pa1 (tup_ (a1 (v_ 2) (a1 (v_ 3) (a1 (call_ (ok__law_phases T) hr (by decide) (a1 (v_ 0) (a1 (v_ 2) (a1 (v_ 3) a0)))) a0))))))) (ps_expr (app_ (pe_bm PySem.F.plainAttrs_list PySem.F.slot_list_append PySem.F.type_list_append mt_append (v_ 1) (pa1 (tup_ (a1 (v_ 2) (a1 (v_ 3) (a1 (call_ (ok__law_phases T) hr (by decide) (a1 (v_ 0) (a1 (v_ 2) (a1 (v_ 3) a0)))) a0))))))))))))))
    (ss_one (ss_ret (tuple_ T.b_tuple (v_ 1))))))

theorem ok__law_phased (T : Top K mg) : Callee P w K mg base 2 "_law_phased" 5 m__law_phased := mkC (k := 1) T.d__law_phased sc__law_phased rfl rfl (fun _ _ _ _ _ _ us hl => match us, hl with | [_, _, _, _, _], _ => rfl) fun f cdv A outer s H E hr =>
    (ss_cons (ss_set (ps_set (i := 5) sc__law_phased.nd rfl (.inl rfl) (mod_ (add_ (sub_ (v_ 4) (v_ 1)) ci) (v_ 3))))
    (ss_one (ss_ret (add_ (add_ (v_ 1) (v_ 5)) (mul_ (v_ 3) (call_ (ok__law_next T) hr (by decide) (a1 (v_ 0) (a1 (add_ (div_ (sub_ (sub_ (v_ 2) ci) (v_ 5)) (v_ 3)) ci) a0))))))))

theorem ok__law_web (T : Top K mg) : Callee P w K mg base 3 "_law_web" 3 m__law_web := mkC (k := 2) T.d__law_web sc__law_web rfl rfl (fun _ _ _ _ _ _ us hl => match us, hl with | [_, _, _], _ => rfl) fun f cdv A outer s H E hr =>
    (ss_cons (ss_set (ps_set (i := 3) sc__law_web.nd rfl (.inr rfl) (add_ ci (call_ (ok__law_next T) hr (by decide) (a1 (v_ 0) (a1 (v_ 1) a0))))))
    (ss_cons (ss_set (ps_set (i := 4) sc__law_web.nd rfl (.inl rfl) (add_ ci (call_ (ok__law_next T) hr (by decide) (a1 (v_ 0) (a1 (v_ 2) a0))))))
    (ss_cons (ss_set (ps_set (i := 5) sc__law_web.nd rfl (.inr rfl) (srt_ hr T.b_sorted (lst_ (a1 ci (a1 (call_ (ok__law_next T) hr (by decide) (a1 (v_ 0) (a1 (add_ (v_ 3) ci) a0))) (a1 (call_ (ok__law_next T) hr (by decide) (a1 (v_ 0) (a1 (add_ (v_ 3) ci) a0))) (a1 (v_ 3) a0))))))))
    (ss_cons (ss_set (ps_set (i := 6) sc__law_web.nd rfl (.inl rfl) (call_ (ok__law_next T) hr (by decide) (a1 (v_ 0) (a1 ci a0)))))
    (ss_cons (ss_set (ps_set (i := 7) sc__law_web.nd rfl (.inl rfl) (lst_ a0)))
    (ss_cons (ss_for (ps_for PassesOwn.never rfl (rg1_ T.b_range ci) (sg_name (nm_ 8 sc__law_web.nd)) (ss_cons (ss_set (ps_set (i := 9) sc__law_web.nd rfl (.inr rfl) (sub_ (ix_ (v_ 5) (add_ (v_ 8) ci)) (ix_ (v_ 5) (v_ 8)))))
    (ss_cons (ss_set (ps_set (i := 10) sc__law_web.nd rfl (.inr rfl) (add_ ci (call_ (ok__law_next T) hr (by decide) (a1 (v_ 0) (a1 (max2_ T.b_max ci (v_ 9)) a0))))))
    (ss_one (ss_for (ps_for PassesOwn.never rfl (rg2_ T.b_range (ix_ (v_ 5) (v_ 8)) (ix_ (v_ 5) (add_ (v_ 8) ci))) (sg_name (nm_ 11 sc__law_web.nd)) (ss_cons (ss_setComp (t := (.nm 13)) (ps_setLc (i := 12) (own := [("_law_j", 13)]) rfl sc__law_web.nd rfl rfl (sw_true rfl rfl rfl (by kernel_rfl)) (rg1_ T.b_range (v_ 4)) (blkOk_by (own := [("_law_j", 13)]) (by kernel_rfl)) (fun _ _ _ _ _ => (nm_ 13 sc__law_web.nd)) (fun _ _ _ _ _ => sts_nil) (fun _ _ _ _ _ => (call_ (ok__law_phased T) hr (by decide) (a1 (v_ 0) (a1 (ix_ (v_ 5) (v_ 8)) (a1 (v_ 9) (a1 (v_ 10) (a1 (v_ 11) a0)))))))) (by decide))
    (ss_cons (ss_if (t_w (w_and (t_eq hr (v_ 8) ci) (w_and1 (t_eq hr (v_ 6) ci)))) (ss_one (ss_setComp (t := (.nm 13)) (ps_setLc (i := 12) (own := [("_law_j", 13)]) rfl sc__law_web.nd rfl rfl (sw_true rfl rfl rfl (by kernel_rfl)) (rg1_ T.b_range (v_ 4)) (blkOk_by (own := [("_law_j", 13)]) (by kernel_rfl)) (fun _ _ _ _ _ => (nm_ 13 sc__law_web.nd)) (fun _ _ _ _ _ => sts_nil) (fun _ _ _ _ _ => (call_ (ok__law_next T) hr (by decide) (a1 (v_ 0) (a1 (v_ 3) a0))))) (by decide))) ss_nil)
    (ss_one (ss_do (app_ (pe_bm PySem.F.plainAttrs_list PySem.F.slot_list_append PySem.F.type_list_append mt_append (v_ 7) (pa1 (tuple_ T.b_tuple (srt_ hr T.b_sorted (v_ 12)))))) (ps_expr (app_ (pe_bm PySem.F.plainAttrs_list PySem.F.slot_list_append PySem.F.type_list_append mt_append (v_ 7) (pa1 (tuple_ T.b_tuple (srt_ hr T.b_sorted (v_ 12))))))))))))))))))
    (ss_one (ss_ret (tuple_ T.b_tuple (v_ 7))))))))))

theorem ok__law_begin (T : Top K mg) : Callee P w K mg base 1 "_law_begin" 1 m__law_begin := mkC (k := 0) T.d__law_begin sc__law_begin rfl rfl (fun _ _ _ _ _ _ us hl => match us, hl with | [_], _ => rfl) fun f cdv A outer s H E hr =>
    (ss_cons (ss_set (ps_set (i := 1) sc__law_begin.nd rfl (.inl rfl) (add_ (len_ T.b_len (v_ 0)) ci)))
    (ss_cons (ss_for (ps_for PassesOwn.never rfl (we (sl_ (v_ 0) o0 (o1 ci))) (sg_name (nm_ 2 sc__law_begin.nd)) (ss_one (ss_set (ps_set (i := 1) sc__law_begin.nd rfl (.inl rfl) (mod_ (add_ (add_ (mul_ (v_ 1) ci) (mod_ (v_ 2) (pow_ ci ci))) ci) ci))))))
    (ss_one (ss_ret (lst_ (a1 (se_comp (t := (.nm 2)) (pe_lc (own := [("_law_cell", 2)]) rfl sc__law_begin.nd (we (sl_ (v_ 0) o0 (o1 ci))) (blkOk_by (own := [("_law_cell", 2)]) (by kernel_rfl)) (fun _ _ _ _ _ => (nm_ 2 sc__law_begin.nd)) (fun _ _ _ _ _ => (sts_one (t_ge (abs_ T.b_abs (v_ 2)) (pow_ ci ci)))) (fun _ _ _ _ _ => (abs_ T.b_abs (v_ 2)))) (by decide)) (a1 (v_ 1) a0)))))))

theorem ok_law (T : Top K mg) {f : Addr} {fd : FuncData} (F : Fun K "law" "law" s_law f fd) : FnOk P w K mg base CX0 6 f fd ["_law_script"] (spF K 1 m_law) := okLaw (k := 5) F sc_law rfl rfl fun f cdv A outer s H E hr =>
    (ss_cons (ss_set (ps_set (i := 1) sc_law.nd rfl (.inr rfl) (call_ (ok__law_begin T) hr (by decide) (a1 (v_ 0) a0))))
    (ss_cons (ss_for (ps_for PassesOwn.never rfl (rg1_ T.b_range (add_ ci (len_ T.b_len (sl_ (v_ 0) o0 (o1 ci))))) (sg_name (nm_ 2 sc_law.nd)) (ss_cons (ss_set (ps_set (i := 3) sc_law.nd rfl (.inr rfl) (call_ (ok__law_web T) hr (by decide) (a1 (v_ 1) (a1 ci (a1 ci a0))))))
    (ss_cons (ss_set (ps_set (i := 4) sc_law.nd rfl (.inr rfl) (call_ (ok__law_beats T) hr (by decide) (a1 (v_ 3) a0))))
    (ss_cons (ss_set (ps_set (i := 5) sc_law.nd rfl (.inl rfl) (lst_ (a1 (tup_ a0) (a1 (v_ 4) (a1 (tuple_ T.b_tuple (se_comp (t := (.nm 7)) (pe_lc (own := [("_law_one", 7)]) rfl sc_law.nd (we (v_ 4)) (blkOk_by (own := [("_law_one", 7)]) (by kernel_rfl)) (fun _ _ _ _ _ => (nm_ 7 sc_law.nd)) (fun _ _ _ _ _ => (sts_one (t_eq hr (call_ (ok__law_next T) hr (by decide) (a1 (v_ 1) (a1 ci a0))) ci))) (fun _ _ _ _ _ => (v_ 7))) (by decide))) (a1 (revT_ (v_ 4)) a0)))))))
    (ss_cons (ss_set (ps_set (i := 6) sc_law.nd rfl (.inl rfl) (trg1_ T.b_tuple T.b_range (len_ T.b_len (v_ 3)))))
    (ss_cons (ss_do (app_ (pe_bm PySem.F.plainAttrs_list PySem.F.slot_list_append PySem.F.type_list_append mt_append (v_ 5) (pa1 (tup_ (a1 (tup_ (a1 (v_ 6) (a1 ci (a1 (mulT_ (tup_ (a1 ci a0)) (len_ T.b_len (v_ 3))) a0)))) a0))))) (ps_expr (app_ (pe_bm PySem.F.plainAttrs_list PySem.F.slot_list_append PySem.F.type_list_append mt_append (v_ 5) (pa1 (tup_ (a1 (tup_ (a1 (v_ 6) (a1 ci (a1 (mulT_ (tup_ (a1 ci a0)) (len_ T.b_len (v_ 3))) a0)))) a0)))))))
    (ss_cons (ss_for (ps_for PassesOwn.never rfl (we (v_ 4)) (sg_name (nm_ 7 sc_law.nd)) (ss_one (ss_do (ext_ (pe_bm PySem.F.plainAttrs_list PySem.F.slot_list_extend PySem.F.type_list_extend mt_extend (v_ 5) (pa1 (se_comp (t := (.nm 10)) (pe_lc (own := [("_law_other", 10)]) rfl sc_law.nd (we (call_ (ok__law_turned T) hr (by decide) (a1 (v_ 1) (a1 (v_ 7) a0)))) (blkOk_by (own := [("_law_other", 10)]) (by kernel_rfl)) (fun _ _ _ _ _ => (nm_ 10 sc_law.nd)) (fun _ _ _ _ _ => sts_nil) (fun _ _ _ _ _ => (tup_ (a1 (v_ 10) a0)))) (by decide))))) (ps_expr (ext_ (pe_bm PySem.F.plainAttrs_list PySem.F.slot_list_extend PySem.F.type_list_extend mt_extend (v_ 5) (pa1 (se_comp (t := (.nm 10)) (pe_lc (own := [("_law_other", 10)]) rfl sc_law.nd (we (call_ (ok__law_turned T) hr (by decide) (a1 (v_ 1) (a1 (v_ 7) a0)))) (blkOk_by (own := [("_law_other", 10)]) (by kernel_rfl)) (fun _ _ _ _ _ => (nm_ 10 sc_law.nd)) (fun _ _ _ _ _ => sts_nil) (fun _ _ _ _ _ => (tup_ (a1 (v_ 10) a0)))) (by decide))))))))))
    (ss_cons (ss_if (t_not (t_val (all_ T.b_all (se_comp (t := (.nm 11)) (pe_lc (own := [("_law_some", 11)]) rfl sc_law.nd (we (v_ 5)) (blkOk_by (own := [("_law_some", 11)]) (by kernel_rfl)) (fun _ _ _ _ _ => (nm_ 11 sc_law.nd)) (fun _ _ _ _ _ => sts_nil) (fun _ _ _ _ _ => (is_ (call_ (ok_shows_beats T) hr (by decide) (a1 (v_ 3) (a1 (v_ 11) a0))) cb_))) (by decide))))) (ss_one (ss_ret cb_)) ss_nil)
    (ss_cons (ss_set (ps_set (i := 8) sc_law.nd rfl (.inl rfl) (lst_ (a1 (list_ T.b_list (v_ 4)) (a1 (add_ (v_ 4) (sl_ (v_ 4) o0 (o1 ci))) (a1 (add_ (v_ 4) (tup_ (a1 (tup_ (a1 (v_ 6) (a1 ci (a1 (mulT_ (tup_ (a1 ci a0)) (len_ T.b_len (v_ 3))) a0)))) a0))) (a1 cn (a1 ci (a1 cs (a1 (tup_ (a1 cn a0)) (a1 (tup_ (a1 (tup_ a0) a0)) a0)))))))))))
    (ss_cons (ss_for (ps_for PassesOwn.never rfl (enum_ T.b_enumerate (v_ 4)) (sg_tup (pg_tup rfl (pgs_cons (nm_ 9 sc_law.nd) (pgs_cons (nm_ 7 sc_law.nd) pgs_nil))) rfl) (ss_one (ss_do (ext_ (pe_bm PySem.F.plainAttrs_list PySem.F.slot_list_extend PySem.F.type_list_extend mt_extend (v_ 8) (pa1 (se_comp (t := (.nm 10)) (pe_lc (own := [("_law_other", 10)]) rfl sc_law.nd (we (call_ (ok__law_wrong T) hr (by decide) (a1 (v_ 1) (a1 (v_ 3) (a1 (v_ 7) a0))))) (blkOk_by (own := [("_law_other", 10)]) (by kernel_rfl)) (fun _ _ _ _ _ => (nm_ 10 sc_law.nd)) (fun _ _ _ _ _ => sts_nil) (fun _ _ _ _ _ => (add_ (add_ (sl_ (v_ 4) o0 (o1 (v_ 9))) (tup_ (a1 (v_ 10) a0))) (sl_ (v_ 4) (o1 (add_ (v_ 9) ci)) o0)))) (by decide))))) (ps_expr (ext_ (pe_bm PySem.F.plainAttrs_list PySem.F.slot_list_extend PySem.F.type_list_extend mt_extend (v_ 8) (pa1 (se_comp (t := (.nm 10)) (pe_lc (own := [("_law_other", 10)]) rfl sc_law.nd (we (call_ (ok__law_wrong T) hr (by decide) (a1 (v_ 1) (a1 (v_ 3) (a1 (v_ 7) a0))))) (blkOk_by (own := [("_law_other", 10)]) (by kernel_rfl)) (fun _ _ _ _ _ => (nm_ 10 sc_law.nd)) (fun _ _ _ _ _ => sts_nil) (fun _ _ _ _ _ => (add_ (add_ (sl_ (v_ 4) o0 (o1 (v_ 9))) (tup_ (a1 (v_ 10) a0))) (sl_ (v_ 4) (o1 (add_ (v_ 9) ci)) o0)))) (by decide))))))))))
    (ss_one (ss_if (t_not (t_val (all_ T.b_all (se_comp (t := (.nm 11)) (pe_lc (own := [("_law_some", 11)]) rfl sc_law.nd (we (v_ 8)) (blkOk_by (own := [("_law_some", 11)]) (by kernel_rfl)) (fun _ _ _ _ _ => (nm_ 11 sc_law.nd)) (fun _ _ _ _ _ => sts_nil) (fun _ _ _ _ _ => (is_ (call_ (ok_shows_beats T) hr (by decide) (a1 (v_ 3) (a1 (v_ 11) a0))) cb_))) (by decide))))) (ss_one (ss_ret cb_)) ss_nil)))))))))))))
    (ss_one (ss_ret cb_))))

end
theorem all_mk {l : PySem.W.OpenLaw} {w : World} {K : PySem.W.Frag} {h : Heap} {mg : Str → Option Value} {fa : Addr} (X : K.In h) (G : h.Ns mainGlobals mg) (hfa : mg "law" = some (.ref fa))
    {f0 : Addr} {od0 an0 : Option Addr} {sl0 : Array (Option Value)} {oc0 kV0 dc0 pm0 cd0 ct0 : Value}
    (a0 : PySem.W.nsIn K mainGlobals "keeps_phases" = some (some (.ref f0))) (l0 : K.lookup f0 = some ⟨oc0, od0, .func (PySem.W.fnOf "keeps_phases" "keeps_phases" (defArgs s_keeps_phases) (defBody s_keeps_phases) (defScope s_keeps_phases) .none kV0 dc0 pm0 an0 cd0 ct0), sl0⟩) (c0 : PySem.W.codeIn K cd0 "keeps_phases" = true) (k0 : PySem.W.keepIn K (.ref f0) = true)
    {f1 : Addr} {od1 an1 : Option Addr} {sl1 : Array (Option Value)} {oc1 kV1 dc1 pm1 cd1 ct1 : Value}
    (a1 : PySem.W.nsIn K mainGlobals "is_whole" = some (some (.ref f1))) (l1 : K.lookup f1 = some ⟨oc1, od1, .func (PySem.W.fnOf "is_whole" "is_whole" (defArgs s_is_whole) (defBody s_is_whole) (defScope s_is_whole) .none kV1 dc1 pm1 an1 cd1 ct1), sl1⟩) (c1 : PySem.W.codeIn K cd1 "is_whole" = true) (k1 : PySem.W.keepIn K (.ref f1) = true)
    {f2 : Addr} {od2 an2 : Option Addr} {sl2 : Array (Option Value)} {oc2 kV2 dc2 pm2 cd2 ct2 : Value}
    (a2 : PySem.W.nsIn K mainGlobals "is_rising" = some (some (.ref f2))) (l2 : K.lookup f2 = some ⟨oc2, od2, .func (PySem.W.fnOf "is_rising" "is_rising" (defArgs s_is_rising) (defBody s_is_rising) (defScope s_is_rising) .none kV2 dc2 pm2 an2 cd2 ct2), sl2⟩) (c2 : PySem.W.codeIn K cd2 "is_rising" = true) (k2 : PySem.W.keepIn K (.ref f2) = true)
    {f3 : Addr} {od3 an3 : Option Addr} {sl3 : Array (Option Value)} {oc3 kV3 dc3 pm3 cd3 ct3 : Value}
    (a3 : PySem.W.nsIn K mainGlobals "is_row" = some (some (.ref f3))) (l3 : K.lookup f3 = some ⟨oc3, od3, .func (PySem.W.fnOf "is_row" "is_row" (defArgs s_is_row) (defBody s_is_row) (defScope s_is_row) .none kV3 dc3 pm3 an3 cd3 ct3), sl3⟩) (c3 : PySem.W.codeIn K cd3 "is_row" = true) (k3 : PySem.W.keepIn K (.ref f3) = true)
    {f4 : Addr} {od4 an4 : Option Addr} {sl4 : Array (Option Value)} {oc4 kV4 dc4 pm4 cd4 ct4 : Value}
    (a4 : PySem.W.nsIn K mainGlobals "is_set" = some (some (.ref f4))) (l4 : K.lookup f4 = some ⟨oc4, od4, .func (PySem.W.fnOf "is_set" "is_set" (defArgs s_is_set) (defBody s_is_set) (defScope s_is_set) .none kV4 dc4 pm4 an4 cd4 ct4), sl4⟩) (c4 : PySem.W.codeIn K cd4 "is_set" = true) (k4 : PySem.W.keepIn K (.ref f4) = true)
    {f5 : Addr} {od5 an5 : Option Addr} {sl5 : Array (Option Value)} {oc5 kV5 dc5 pm5 cd5 ct5 : Value}
    (a5 : PySem.W.nsIn K mainGlobals "is_beat" = some (some (.ref f5))) (l5 : K.lookup f5 = some ⟨oc5, od5, .func (PySem.W.fnOf "is_beat" "is_beat" (defArgs s_is_beat) (defBody s_is_beat) (defScope s_is_beat) .none kV5 dc5 pm5 an5 cd5 ct5), sl5⟩) (c5 : PySem.W.codeIn K cd5 "is_beat" = true) (k5 : PySem.W.keepIn K (.ref f5) = true)
    {f6 : Addr} {od6 an6 : Option Addr} {sl6 : Array (Option Value)} {oc6 kV6 dc6 pm6 cd6 ct6 : Value}
    (a6 : PySem.W.nsIn K mainGlobals "shows_beats" = some (some (.ref f6))) (l6 : K.lookup f6 = some ⟨oc6, od6, .func (PySem.W.fnOf "shows_beats" "shows_beats" (defArgs s_shows_beats) (defBody s_shows_beats) (defScope s_shows_beats) .none kV6 dc6 pm6 an6 cd6 ct6), sl6⟩) (c6 : PySem.W.codeIn K cd6 "shows_beats" = true) (k6 : PySem.W.keepIn K (.ref f6) = true)
    {f7 : Addr} {od7 an7 : Option Addr} {sl7 : Array (Option Value)} {oc7 kV7 dc7 pm7 cd7 ct7 : Value}
    (a7 : PySem.W.nsIn K mainGlobals "_law_truths" = some (some (.ref f7))) (l7 : K.lookup f7 = some ⟨oc7, od7, .func (PySem.W.fnOf "_law_truths" "_law_truths" (defArgs s__law_truths) (defBody s__law_truths) (defScope s__law_truths) .none kV7 dc7 pm7 an7 cd7 ct7), sl7⟩) (c7 : PySem.W.codeIn K cd7 "_law_truths" = true) (k7 : PySem.W.keepIn K (.ref f7) = true)
    {f8 : Addr} {od8 an8 : Option Addr} {sl8 : Array (Option Value)} {oc8 kV8 dc8 pm8 cd8 ct8 : Value}
    (a8 : PySem.W.nsIn K mainGlobals "_law_next" = some (some (.ref f8))) (l8 : K.lookup f8 = some ⟨oc8, od8, .func (PySem.W.fnOf "_law_next" "_law_next" (defArgs s__law_next) (defBody s__law_next) (defScope s__law_next) .none kV8 dc8 pm8 an8 cd8 ct8), sl8⟩) (c8 : PySem.W.codeIn K cd8 "_law_next" = true) (k8 : PySem.W.keepIn K (.ref f8) = true)
    {f9 : Addr} {od9 an9 : Option Addr} {sl9 : Array (Option Value)} {oc9 kV9 dc9 pm9 cd9 ct9 : Value}
    (a9 : PySem.W.nsIn K mainGlobals "_law_wrong" = some (some (.ref f9))) (l9 : K.lookup f9 = some ⟨oc9, od9, .func (PySem.W.fnOf "_law_wrong" "_law_wrong" (defArgs s__law_wrong) (defBody s__law_wrong) (defScope s__law_wrong) .none kV9 dc9 pm9 an9 cd9 ct9), sl9⟩) (c9 : PySem.W.codeIn K cd9 "_law_wrong" = true) (k9 : PySem.W.keepIn K (.ref f9) = true)
    {f10 : Addr} {od10 an10 : Option Addr} {sl10 : Array (Option Value)} {oc10 kV10 dc10 pm10 cd10 ct10 : Value}
    (a10 : PySem.W.nsIn K mainGlobals "_law_turned" = some (some (.ref f10))) (l10 : K.lookup f10 = some ⟨oc10, od10, .func (PySem.W.fnOf "_law_turned" "_law_turned" (defArgs s__law_turned) (defBody s__law_turned) (defScope s__law_turned) .none kV10 dc10 pm10 an10 cd10 ct10), sl10⟩) (c10 : PySem.W.codeIn K cd10 "_law_turned" = true) (k10 : PySem.W.keepIn K (.ref f10) = true)
    {f11 : Addr} {od11 an11 : Option Addr} {sl11 : Array (Option Value)} {oc11 kV11 dc11 pm11 cd11 ct11 : Value}
    (a11 : PySem.W.nsIn K mainGlobals "_law_leads" = some (some (.ref f11))) (l11 : K.lookup f11 = some ⟨oc11, od11, .func (PySem.W.fnOf "_law_leads" "_law_leads" (defArgs s__law_leads) (defBody s__law_leads) (defScope s__law_leads) .none kV11 dc11 pm11 an11 cd11 ct11), sl11⟩) (c11 : PySem.W.codeIn K cd11 "_law_leads" = true) (k11 : PySem.W.keepIn K (.ref f11) = true)
    {f12 : Addr} {od12 an12 : Option Addr} {sl12 : Array (Option Value)} {oc12 kV12 dc12 pm12 cd12 ct12 : Value}
    (a12 : PySem.W.nsIn K mainGlobals "_law_parts" = some (some (.ref f12))) (l12 : K.lookup f12 = some ⟨oc12, od12, .func (PySem.W.fnOf "_law_parts" "_law_parts" (defArgs s__law_parts) (defBody s__law_parts) (defScope s__law_parts) .none kV12 dc12 pm12 an12 cd12 ct12), sl12⟩) (c12 : PySem.W.codeIn K cd12 "_law_parts" = true) (k12 : PySem.W.keepIn K (.ref f12) = true)
    {f13 : Addr} {od13 an13 : Option Addr} {sl13 : Array (Option Value)} {oc13 kV13 dc13 pm13 cd13 ct13 : Value}
    (a13 : PySem.W.nsIn K mainGlobals "_law_phases" = some (some (.ref f13))) (l13 : K.lookup f13 = some ⟨oc13, od13, .func (PySem.W.fnOf "_law_phases" "_law_phases" (defArgs s__law_phases) (defBody s__law_phases) (defScope s__law_phases) .none kV13 dc13 pm13 an13 cd13 ct13), sl13⟩) (c13 : PySem.W.codeIn K cd13 "_law_phases" = true) (k13 : PySem.W.keepIn K (.ref f13) = true)
    {f14 : Addr} {od14 an14 : Option Addr} {sl14 : Array (Option Value)} {oc14 kV14 dc14 pm14 cd14 ct14 : Value}
    (a14 : PySem.W.nsIn K mainGlobals "_law_beats" = some (some (.ref f14))) (l14 : K.lookup f14 = some ⟨oc14, od14, .func (PySem.W.fnOf "_law_beats" "_law_beats" (defArgs s__law_beats) (defBody s__law_beats) (defScope s__law_beats) .none kV14 dc14 pm14 an14 cd14 ct14), sl14⟩) (c14 : PySem.W.codeIn K cd14 "_law_beats" = true) (k14 : PySem.W.keepIn K (.ref f14) = true)
    {f15 : Addr} {od15 an15 : Option Addr} {sl15 : Array (Option Value)} {oc15 kV15 dc15 pm15 cd15 ct15 : Value}
    (a15 : PySem.W.nsIn K mainGlobals "_law_phased" = some (some (.ref f15))) (l15 : K.lookup f15 = some ⟨oc15, od15, .func (PySem.W.fnOf "_law_phased" "_law_phased" (defArgs s__law_phased) (defBody s__law_phased) (defScope s__law_phased) .none kV15 dc15 pm15 an15 cd15 ct15), sl15⟩) (c15 : PySem.W.codeIn K cd15 "_law_phased" = true) (k15 : PySem.W.keepIn K (.ref f15) = true)
    {f16 : Addr} {od16 an16 : Option Addr} {sl16 : Array (Option Value)} {oc16 kV16 dc16 pm16 cd16 ct16 : Value}
    (a16 : PySem.W.nsIn K mainGlobals "_law_web" = some (some (.ref f16))) (l16 : K.lookup f16 = some ⟨oc16, od16, .func (PySem.W.fnOf "_law_web" "_law_web" (defArgs s__law_web) (defBody s__law_web) (defScope s__law_web) .none kV16 dc16 pm16 an16 cd16 ct16), sl16⟩) (c16 : PySem.W.codeIn K cd16 "_law_web" = true) (k16 : PySem.W.keepIn K (.ref f16) = true)
    {f17 : Addr} {od17 an17 : Option Addr} {sl17 : Array (Option Value)} {oc17 kV17 dc17 pm17 cd17 ct17 : Value}
    (a17 : PySem.W.nsIn K mainGlobals "_law_begin" = some (some (.ref f17))) (l17 : K.lookup f17 = some ⟨oc17, od17, .func (PySem.W.fnOf "_law_begin" "_law_begin" (defArgs s__law_begin) (defBody s__law_begin) (defScope s__law_begin) .none kV17 dc17 pm17 an17 cd17 ct17), sl17⟩) (c17 : PySem.W.codeIn K cd17 "_law_begin" = true) (k17 : PySem.W.keepIn K (.ref f17) = true)
    {f18 : Addr} {od18 an18 : Option Addr} {sl18 : Array (Option Value)} {oc18 kV18 dc18 pm18 cd18 ct18 : Value}
    (a18 : PySem.W.nsIn K mainGlobals "law" = some (some (.ref f18))) (l18 : K.lookup f18 = some ⟨oc18, od18, .func (PySem.W.fnOf "law" "law" (defArgs s_law) (defBody s_law) (defScope s_law) .none kV18 dc18 pm18 an18 cd18 ct18), sl18⟩) (c18 : PySem.W.codeIn K cd18 "law" = true) (k18 : PySem.W.keepIn K (.ref f18) = true)
    (z_abs : PySem.W.nsIn K mainGlobals "abs" = some none)
    (z_all : PySem.W.nsIn K mainGlobals "all" = some none)
    (z_bool : PySem.W.nsIn K mainGlobals "bool" = some none)
    (z_enumerate : PySem.W.nsIn K mainGlobals "enumerate" = some none)
    (z_int : PySem.W.nsIn K mainGlobals "int" = some none)
    (z_isinstance : PySem.W.nsIn K mainGlobals "isinstance" = some none)
    (z_len : PySem.W.nsIn K mainGlobals "len" = some none)
    (z_list : PySem.W.nsIn K mainGlobals "list" = some none)
    (z_max : PySem.W.nsIn K mainGlobals "max" = some none)
    (z_min : PySem.W.nsIn K mainGlobals "min" = some none)
    (z_range : PySem.W.nsIn K mainGlobals "range" = some none)
    (z_reversed : PySem.W.nsIn K mainGlobals "reversed" = some none)
    (z_set : PySem.W.nsIn K mainGlobals "set" = some none)
    (z_sorted : PySem.W.nsIn K mainGlobals "sorted" = some none)
    (z_str : PySem.W.nsIn K mainGlobals "str" = some none)
    (z_tuple : PySem.W.nsIn K mainGlobals "tuple" = some none)
    (z_zip : PySem.W.nsIn K mainGlobals "zip" = some none) :
    ∃ fd : FuncData, (∀ (s : Shared) (v : Value), BindsTo s fd ⟨[v], []⟩ [("_law_script", v)]) ∧ ∀ base : Heap, K.In base → base.Ns mainGlobals mg → FnOk l.prog w K mg base CX0 6 fa fd ["_law_script"] (spF K 1 m_law) := by
  have e := hfa.symm.trans (PySem.W.mg_of X G a18)
  cases e
  have T : Top K mg := { d_keeps_phases := df_mk X G a0 l0 c0 k0, d_is_whole := df_mk X G a1 l1 c1 k1, d_is_rising := df_mk X G a2 l2 c2 k2, d_is_row := df_mk X G a3 l3 c3 k3, d_is_set := df_mk X G a4 l4 c4 k4, d_is_beat := df_mk X G a5 l5 c5 k5, d_shows_beats := df_mk X G a6 l6 c6 k6, d__law_truths := df_mk X G a7 l7 c7 k7, d__law_next := df_mk X G a8 l8 c8 k8, d__law_wrong := df_mk X G a9 l9 c9 k9, d__law_turned := df_mk X G a10 l10 c10 k10, d__law_leads := df_mk X G a11 l11 c11 k11, d__law_parts := df_mk X G a12 l12 c12 k12, d__law_phases := df_mk X G a13 l13 c13 k13, d__law_beats := df_mk X G a14 l14 c14 k14, d__law_phased := df_mk X G a15 l15 c15 k15, d__law_web := df_mk X G a16 l16 c16 k16, d__law_begin := df_mk X G a17 l17 c17 k17, b_abs := PySem.W.mg_none_of X G z_abs, b_all := PySem.W.mg_none_of X G z_all, b_bool := PySem.W.mg_none_of X G z_bool, b_enumerate := PySem.W.mg_none_of X G z_enumerate, b_int := PySem.W.mg_none_of X G z_int, b_isinstance := PySem.W.mg_none_of X G z_isinstance, b_len := PySem.W.mg_none_of X G z_len, b_list := PySem.W.mg_none_of X G z_list, b_max := PySem.W.mg_none_of X G z_max, b_min := PySem.W.mg_none_of X G z_min, b_range := PySem.W.mg_none_of X G z_range, b_reversed := PySem.W.mg_none_of X G z_reversed, b_set := PySem.W.mg_none_of X G z_set, b_sorted := PySem.W.mg_none_of X G z_sorted, b_str := PySem.W.mg_none_of X G z_str, b_tuple := PySem.W.mg_none_of X G z_tuple, b_zip := PySem.W.mg_none_of X G z_zip }
  exact ⟨PySem.W.fnOf "law" "law" (defArgs s_law) (defBody s_law) (defScope s_law) .none kV18 dc18 pm18 an18 cd18 ct18, fun s v => .of_eq rfl, fun base _ _ => ok_law T (fun_mk (st := s_law) l18 c18 k18)⟩
end Q
open PySem PySem.W PyProof.Rows
set_option maxHeartbeats 0 in
theorem PySem.Challenge.cw_bringhome_k54_shown_beats_of_anything_holds : PySem.Challenge.rw_bringhome_k54_shown_beats_of_anything.Holds := by
  w_on; o_law; k_head; (case hw => w_witness2)
  k_fill
  refine L2.walk_of (l := PySem.Challenge.rw_bringhome_k54_shown_beats_of_anything) (n := 63) (k := 6) (x := "_law_script") (CX := fun _ => L2.CX0) (sp := fun w => Q.spF _ 1 Q.m_law) rfl (by decide) rfl ⟨rfl, by decide, by decide⟩ (fun w h Y => PySem.W.kIn_of Y) ?F (fun _ H a ns hl hO hS => Q.law_sp Q.law_true H a ns hl hO hS _) (fun _ _ _ _ _ h => h)
  case F =>
    intro w mg fa h KX G hmg
    refine' Q.all_mk KX G hmg ?a0 ?l0 ?c0 ?k0 ?a1 ?l1 ?c1 ?k1 ?a2 ?l2 ?c2 ?k2 ?a3 ?l3 ?c3 ?k3 ?a4 ?l4 ?c4 ?k4 ?a5 ?l5 ?c5 ?k5 ?a6 ?l6 ?c6 ?k6 ?a7 ?l7 ?c7 ?k7 ?a8 ?l8 ?c8 ?k8 ?a9 ?l9 ?c9 ?k9 ?a10 ?l10 ?c10 ?k10 ?a11 ?l11 ?c11 ?k11 ?a12 ?l12 ?c12 ?k12 ?a13 ?l13 ?c13 ?k13 ?a14 ?l14 ?c14 ?k14 ?a15 ?l15 ?c15 ?k15 ?a16 ?l16 ?c16 ?k16 ?a17 ?l17 ?c17 ?k17 ?a18 ?l18 ?c18 ?k18 ?z_abs ?z_all ?z_bool ?z_enumerate ?z_int ?z_isinstance ?z_len ?z_list ?z_max ?z_min ?z_range ?z_reversed ?z_set ?z_sorted ?z_str ?z_tuple ?z_zip
    (case a0 => k_is); (case l0 => k_is); (case c0 => k_is); (case k0 => k_is); (case a1 => k_is); (case l1 => k_is); (case c1 => k_is); (case k1 => k_is); (case a2 => k_is); (case l2 => k_is); (case c2 => k_is); (case k2 => k_is); (case a3 => k_is); (case l3 => k_is); (case c3 => k_is); (case k3 => k_is); (case a4 => k_is); (case l4 => k_is); (case c4 => k_is); (case k4 => k_is); (case a5 => k_is); (case l5 => k_is); (case c5 => k_is); (case k5 => k_is); (case a6 => k_is); (case l6 => k_is); (case c6 => k_is); (case k6 => k_is); (case a7 => k_is); (case l7 => k_is); (case c7 => k_is); (case k7 => k_is); (case a8 => k_is); (case l8 => k_is); (case c8 => k_is); (case k8 => k_is); (case a9 => k_is); (case l9 => k_is); (case c9 => k_is); (case k9 => k_is); (case a10 => k_is); (case l10 => k_is); (case c10 => k_is); (case k10 => k_is); (case a11 => k_is); (case l11 => k_is); (case c11 => k_is); (case k11 => k_is); (case a12 => k_is); (case l12 => k_is); (case c12 => k_is); (case k12 => k_is); (case a13 => k_is); (case l13 => k_is); (case c13 => k_is); (case k13 => k_is); (case a14 => k_is); (case l14 => k_is); (case c14 => k_is); (case k14 => k_is); (case a15 => k_is); (case l15 => k_is); (case c15 => k_is); (case k15 => k_is); (case a16 => k_is); (case l16 => k_is); (case c16 => k_is); (case k16 => k_is); (case a17 => k_is); (case l17 => k_is); (case c17 => k_is); (case k17 => k_is); (case a18 => k_is); (case l18 => k_is); (case c18 => k_is); (case k18 => k_is); (case z_abs => k_is); (case z_all => k_is); (case z_bool => k_is); (case z_enumerate => k_is); (case z_int => k_is); (case z_isinstance => k_is); (case z_len => k_is); (case z_list => k_is); (case z_max => k_is); (case z_min => k_is); (case z_range => k_is); (case z_reversed => k_is); (case z_set => k_is); (case z_sorted => k_is); (case z_str => k_is); (case z_tuple => k_is); (case z_zip => k_is)
