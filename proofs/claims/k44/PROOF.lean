import PyProof.Rows.All
import Wide.All
import OpenK.AllK
import Wide.FinOn
import HandS.ForMost
import HandS.IsInst
import HandS.TupAny
import HandS.Deep
import HandS.SortInts
import HandS.Zip
import HandS.Style
import HandS.DictTup
import KE.KeyNested
import HandS.Nested
import HandS.Conv
import KE.GoesEnum
import HandS.Strs
import HandS.More
import KE.KDictDisplayH
import HandS.TupMul
import HandS.Iter
import KE.KDictWalk
import PyProof.EnumIter
import KE.KDictCopyH
import HandS.TupLen
import KE.KDictPairs
import KE.DataCmp
import KE.SortData
import PyProof.MinMaxWalk
import PyProof.ListNew
import PyProof.SliceList
import PySem.Challenge.RW_bringhome_k44_folded_machines
set_option Elab.async false
set_option linter.all false
set_option autoImplicit false
set_option maxRecDepth 100000
set_option maxHeartbeats 2000000
/-! Q: a def of the text as a plain function over data and a list of changeable objects. -/
namespace Q
open PySem L2

/-- data: what never changes, and places of what may -/
inductive D where
  | non | bl (b : Bool) | int (i : Int) | str (s : Str) | tup (xs : List D) | fl (xs : List D) | par (xs : List D) | ref (n : Nat) | lam (k : Nat) (xs : List D)
/-- what may change -/
inductive Ob where
  | lst (xs : List D) | dct (kvs : List (D × D)) | dcr (kvs : List (D × D)) | tab (q : Str)
/-- an expression's outcome: data, or a new object that nobody else holds -/
inductive Out where
  | v (d : D) | o (b : Ob)
abbrev Mem := List Ob
abbrev Env := List (Option D)
abbrev E := Env → Mem → Option (Out × Mem)
abbrev B := Env → Mem → Option (Bool × Mem)
abbrev A := Env → Mem → Option (List D × Mem)
inductive R where
  | nx (ρ : Env) (m : Mem) | rt (r : Out) (m : Mem) | bk (ρ : Env) (m : Mem) | ct (ρ : Env) (m : Mem)
abbrev S := Env → Mem → Option R
abbrev Fn := List D → Mem → Option (Out × Mem)

/-- within the line -/
def fits (n : Nat) : Prop := n ≤ sizeLine
noncomputable instance (n : Nat) : Decidable (fits n) := Classical.propDecidable _
@[simp] theorem fits_of {n : Nat} (h : n ≤ 100000) : fits n := Nat.le_trans h (by decide)

/-! ### how data lies in the layer's heap -/
def FlAt (K : PySem.W.Frag) (H : Hp) (a : Addr) (xs : List V) : Prop :=
  (∃ o, H a = some (.frz o (.lst xs))) ∨
    ∃ (o : Obj) (its : Array Value) (n : Nat), K.lookup a = some o ∧ o.cls = .type "list" ∧ o.dict = none ∧ o.data = .seq its n ∧ its.size ≤ sizeLine ∧ Vals xs its.toList
theorem FlAt.sq {K : PySem.W.Frag} {H : Hp} {a : Addr} {xs : List V} (h : FlAt K H a xs) : SqL K H a xs := by
  rcases h with ⟨o, h⟩ | h
  · exact .inl (.inr ⟨o, h⟩)
  · exact .inr h
/-- a plain tuple -/
def TpAt (K : PySem.W.Frag) (H : Hp) (a : Addr) (xs : List V) : Prop :=
  (∃ o, H a = some (.frz o (.tup xs)) ∧ o.dict = none) ∨
    ∃ (o : Obj) (its : Array Value) (n : Nat), K.lookup a = some o ∧ o.cls = .type "tuple" ∧ o.dict = none ∧ o.data = .seq its n ∧ its.size ≤ sizeLine ∧ Vals xs its.toList
theorem TpAt.sq {K : PySem.W.Frag} {H : Hp} {a : Addr} {xs : List V} (h : TpAt K H a xs) : SqT K H a xs := by
  rcases h with ⟨o, h, _⟩ | ⟨o, its, n, h1, h2, _, h3⟩
  · exact .inl (.inr ⟨o, h⟩)
  · exact .inr ⟨o, its, n, h1, h2, h3⟩
/-- a tuple that a walk has made, to be taken apart -/
def PrAt (H : Hp) (a : Addr) (xs : List V) : Prop := H a = some (.tup xs)
/-- what never changes while it is so -/
def Fz : HO → Prop
  | .tup _ => True
  | .frz _ _ => True
  | _ => False
/-- a thing that is known to the object -/
def FzO (a : Addr) (o : Obj) : HO := .frz o (.ext fun h => h.get? a = some o)
theorem FzO.ok {P : Program} {w : World} {H : Hp} {h : Heap} {a : Addr} {o : Obj} (e : h.get? a = some o) : ObjOk P w H h a (FzO a o) := ⟨e, e, ⟨o, e⟩, fun h1 h2 q k => k _ q⟩
/-- a code object's name -/
def CodeNm (o : Obj) (q : Str) : Prop := ∃ (vs : Array Value) (t : Tok), o.data = .fields vs ∧ vs[1]? = some (.str q t)
/-- what a lambda's body answers: 0: len(x) <= c; 1: all([y in c for y in x]) -/
def lamB (K : PySem.W.Frag) (H : Hp) : Nat → V → List Int → Bool → Prop
  | 0, w, ns, b => ∃ i : Int, w = .int i ∧ b = decide ((ns.length : Int) ≤ i)
  | 1, w, ns, b => ∃ (c : Addr) (ms : List Int), w = .ref c ∧ TpAt K H c (ms.map V.int) ∧ b = ns.all fun x => decide (x ∈ ms)
  | _, _, _, _ => False
def lamT (K : PySem.W.Frag) (k : Nat) : TE := fun σ H Q => ∃ (a : Addr) (ns : List Int) (w : V) (b : Bool), σ[0]? = some (some (.ref a)) ∧ TpAt K H a (ns.map V.int) ∧ σ[1]? = some (some w) ∧ k + 2 ≤ σ.length ∧ lamB K H k w ns b ∧
  ∀ H', (∀ a o, H a = some o → H' a = some o) → Q (.bl b) H'
/-- the text of a lambda with one parameter that captures one name -/
structure LamX where
  params : Arguments
  body : Expr
  scope : Scope
  prm : Str
  cap : Str
  N : List Str
/-- its body keeps what is told of it, in any frame of its own -/
structure LamSem (K : PySem.W.Frag) (k : Nat) (L : LamX) : Prop where
  sc : NdefX.NScope L.N [L.prm] [L.cap] L.scope
  nn : k + 2 ≤ L.N.length
  bind : ∀ (q : Str) (cl : List (Str × Addr)) (pm cv ctv u : Value), bindArgs (PySem.W.kla_fn "<lambda>" q L.params L.body L.scope cl pm cv ctv) ⟨[u], []⟩ = pure [(L.prm, u)]
  run : ∀ (P : Program) (w : World) (mg : Str → Option Value) (base : Heap), K.In base → base.Ns mainGlobals mg → ∀ (q : Str) (cl : List (Str × Addr)) (c f : Addr) (A : Around) (outer : List PySem.Env) (s : Shared) (H : Hp) (E : XK), Room 1 (A.deeper (NdefX.envF ⟨"<lambda>", q, L.params, [], L.scope, cl, c⟩ f s.heap.objs.size)) →
    PE (NdefX.ncx CX0 P w K mg base L.N ⟨"<lambda>", q, L.params, [], L.scope, cl, c⟩ f A outer s H E) L.body (lamT K k)
/-- a lambda in the heap: its function, its cell, its code object are known -/
def LamAt (K : PySem.W.Frag) (H : Hp) (k : Nat) (f : Addr) (vs : List V) : Prop := ∃ (L : LamX) (q : Str) (c cell : Addr) (pm ctv : Value) (ocd ocl : Obj) (v : V) (u : Value), vs = [v] ∧ LamSem K k L ∧
  H f = some (FzO f (PySem.W.kla_obj "<lambda>" q L.params L.body L.scope [(L.cap, cell)] pm c ctv)) ∧ H c = some (FzO c ocd) ∧ CodeNm ocd q ∧ H cell = some (FzO cell ocl) ∧ ocl.data = .cell (some u) ∧ RelV v u
mutual
inductive RV (K : PySem.W.Frag) (ι : List Addr) (H : Hp) : D → V → Prop
  | non : RV K ι H .non .non
  | bl (b : Bool) : RV K ι H (.bl b) (.bl b)
  | int (i : Int) : RV K ι H (.int i) (.int i)
  | str (s : Str) : RV K ι H (.str s) (.str s)
  | tup {a : Addr} {vs : List V} {ds : List D} : TpAt K H a vs → RVs K ι H ds vs → RV K ι H (.tup ds) (.ref a)
  | fl {a : Addr} {vs : List V} {ds : List D} : FlAt K H a vs → RVs K ι H ds vs → RV K ι H (.fl ds) (.ref a)
  | par {a : Addr} {vs : List V} {ds : List D} : PrAt H a vs → RVs K ι H ds vs → RV K ι H (.par ds) (.ref a)
  | ref {n : Nat} {a : Addr} : ι[n]? = some a → RV K ι H (.ref n) (.ref a)
  | lam {a : Addr} {k : Nat} {vs : List V} {ds : List D} : LamAt K H k a vs → RVs K ι H ds vs → RV K ι H (.lam k ds) (.ref a)
inductive RVs (K : PySem.W.Frag) (ι : List Addr) (H : Hp) : List D → List V → Prop
  | nil : RVs K ι H [] []
  | cons {d : D} {v : V} {ds : List D} {vs : List V} : RV K ι H d v → RVs K ι H ds vs → RVs K ι H (d :: ds) (v :: vs)
end
/-- the layer's heap goes on: what can't change stays, and what is not in ι; new places were free -/
structure Le (ι : List Addr) (H : Hp) (ι' : List Addr) (H' : Hp) : Prop where
  pre : ∃ nw, ι' = ι ++ nw ∧ ∀ a ∈ nw, H a = none
  keep : ∀ a o, H a = some o → (Fz o ∨ a ∉ ι) → H' a = some o
theorem Le.refl (ι : List Addr) (H : Hp) : Le ι H ι H := ⟨⟨[], by simp, by simp⟩, fun _ _ h _ => h⟩
theorem Le.trans {ι ι1 ι2 : List Addr} {H H1 H2 : Hp} (p : Le ι H ι1 H1) (q : Le ι1 H1 ι2 H2) (g : ∀ a ∈ ι, H1 a ≠ none) : Le ι H ι2 H2 := by
  obtain ⟨n1, e1, f1⟩ := p.pre
  obtain ⟨n2, e2, f2⟩ := q.pre
  refine ⟨⟨n1 ++ n2, by rw [e2, e1, List.append_assoc], fun a ha => ?_⟩, fun a o h c => ?_⟩
  · rcases List.mem_append.mp ha with h | h
    · exact f1 a h
    · have h1 := f2 a h
      cases q0 : H a with
      | none => rfl
      | some o =>
        by_cases hi : a ∈ ι
        · exact absurd h1 (g a hi)
        · rw [p.keep a o q0 (.inr hi)] at h1; cases h1
  · refine q.keep a o (p.keep a o h c) (c.imp id fun hi hm => ?_)
    rw [e1] at hm
    rcases List.mem_append.mp hm with z | z
    · exact hi z
    · rw [f1 a z] at h; cases h
theorem Le.ix {ι ι' : List Addr} {H H' : Hp} (p : Le ι H ι' H') {n : Nat} {a : Addr} (h : ι[n]? = some a) : ι'[n]? = some a := by
  obtain ⟨nw, e, _⟩ := p.pre
  rw [e, List.getElem?_append_left (List.getElem?_eq_some_iff.mp h).1]
  exact h
/-- the weaker one: what can't change stays -/
structure Kp (ι : List Addr) (H : Hp) (ι' : List Addr) (H' : Hp) : Prop where
  ix : ∀ (n : Nat) (a : Addr), ι[n]? = some a → ι'[n]? = some a
  kp : ∀ a o, H a = some o → Fz o → H' a = some o
theorem Le.k {ι ι' : List Addr} {H H' : Hp} (p : Le ι H ι' H') : Kp ι H ι' H' := ⟨fun _ _ h => p.ix h, fun a o h c => p.keep a o h (.inl c)⟩
theorem Kp.rdT {K : PySem.W.Frag} {ι ι' : List Addr} {H H' : Hp} (p : Kp ι H ι' H') {a : Addr} {vs : List V} (h : TpAt K H a vs) : TpAt K H' a vs := by
  rcases h with ⟨o, h, hd⟩ | h
  · exact .inl ⟨o, p.kp _ _ h trivial, hd⟩
  · exact .inr h
theorem Kp.rdF {K : PySem.W.Frag} {ι ι' : List Addr} {H H' : Hp} (p : Kp ι H ι' H') {a : Addr} {vs : List V} (h : FlAt K H a vs) : FlAt K H' a vs := by
  rcases h with ⟨o, h⟩ | h
  · exact .inl ⟨o, p.kp _ _ h trivial⟩
  · exact .inr h
theorem Kp.rdL {K : PySem.W.Frag} {ι ι' : List Addr} {H H' : Hp} (p : Kp ι H ι' H') {a : Addr} {k : Nat} {vs : List V} (h : LamAt K H k a vs) : LamAt K H' k a vs := by
  obtain ⟨L, q, c, cell, pm, ctv, ocd, ocl, v, u, h1, h2, h4, h5, h6, h7, h8⟩ := h
  exact ⟨L, q, c, cell, pm, ctv, ocd, ocl, v, u, h1, h2, p.kp _ _ h4 trivial, p.kp _ _ h5 trivial, h6, p.kp _ _ h7 trivial, h8⟩
section
variable {K : PySem.W.Frag} {ι ι' : List Addr} {H H' : Hp}
mutual
theorem RV.kp (p : Kp ι H ι' H') : ∀ {d : D} {v : V}, RV K ι H d v → RV K ι' H' d v
  | _, _, .non => .non
  | _, _, .bl b => .bl b
  | _, _, .int i => .int i
  | _, _, .str s => .str s
  | _, _, .tup h r => .tup (p.rdT h) (RVs.kp p r)
  | _, _, .fl h r => .fl (p.rdF h) (RVs.kp p r)
  | _, _, .par h r => .par (p.kp _ _ h trivial) (RVs.kp p r)
  | _, _, .ref h => .ref (p.ix _ _ h)
  | _, _, .lam h r => .lam (p.rdL h) (RVs.kp p r)
theorem RVs.kp (p : Kp ι H ι' H') : ∀ {ds : List D} {vs : List V}, RVs K ι H ds vs → RVs K ι' H' ds vs
  | _, _, .nil => .nil
  | _, _, .cons h r => .cons (RV.kp p h) (RVs.kp p r)
end
theorem RV.mono (p : Le ι H ι' H') {d : D} {v : V} (h : RV K ι H d v) : RV K ι' H' d v := h.kp p.k
theorem RVs.mono (p : Le ι H ι' H') {ds : List D} {vs : List V} (h : RVs K ι H ds vs) : RVs K ι' H' ds vs := h.kp p.k
theorem RVs.length : ∀ {ds : List D} {vs : List V}, RVs K ι H ds vs → ds.length = vs.length
  | _, _, .nil => rfl
  | _, _, .cons _ r => by simp [RVs.length r]
theorem RVs.get : ∀ {ds : List D} {vs : List V} {i : Nat} {d : D}, RVs K ι H ds vs → ds[i]? = some d → ∃ v, vs[i]? = some v ∧ RV K ι H d v
  | _, _, _, _, .nil, e => by simp at e
  | _, _, 0, _, .cons r _, e => by simp at e; subst e; exact ⟨_, rfl, r⟩
  | _, _, i + 1, d, .cons _ t, e => by
    obtain ⟨u, h1, h2⟩ := RVs.get (i := i) (d := d) t (by simpa using e)
    exact ⟨u, by simpa using h1, h2⟩
theorem RVs.append : ∀ {xs ys : List D} {us ws : List V}, RVs K ι H xs us → RVs K ι H ys ws → RVs K ι H (xs ++ ys) (us ++ ws)
  | _, _, _, _, .nil, s => s
  | _, _, _, _, .cons r t, s => .cons r (RVs.append t s)
theorem RVs.take : ∀ {xs : List D} {us : List V} (n : Nat), RVs K ι H xs us → RVs K ι H (xs.take n) (us.take n)
  | _, _, 0, _ => by simp; exact .nil
  | _, _, _ + 1, .nil => .nil
  | _, _, n + 1, .cons r t => .cons r (RVs.take n t)
theorem RVs.drop : ∀ {xs : List D} {us : List V} (n : Nat), RVs K ι H xs us → RVs K ι H (xs.drop n) (us.drop n)
  | _, _, 0, r => r
  | _, _, _ + 1, .nil => .nil
  | _, _, n + 1, .cons _ t => RVs.drop n t
theorem RVs.set {x : D} {u : V} (r : RV K ι H x u) : ∀ {xs : List D} {us : List V} (i : Nat), RVs K ι H xs us → RVs K ι H (xs.set i x) (us.set i u)
  | _, _, _, .nil => .nil
  | _, _, 0, .cons _ t => .cons r t
  | _, _, i + 1, .cons q t => .cons q (RVs.set r i t)
theorem RVs.reverse {xs : List D} {us : List V} (r : RVs K ι H xs us) : RVs K ι H xs.reverse us.reverse := by
  induction r using RVs.rec (motive_1 := fun _ _ _ => True) with
  | nil => exact .nil
  | cons h _ _ ih => rw [List.reverse_cons, List.reverse_cons]; exact ih.append (.cons h .nil)
  | _ => trivial
theorem RVs.eraseIdx : ∀ {xs : List D} {us : List V} (n : Nat), RVs K ι H xs us → RVs K ι H (xs.eraseIdx n) (us.eraseIdx n)
  | _, _, _, .nil => .nil
  | _, _, 0, .cons r t => t
  | _, _, n + 1, .cons r t => .cons r (RVs.eraseIdx n t)
theorem RVs.ints : ∀ (ns : List Int), RVs K ι H (ns.map D.int) (ns.map V.int)
  | [] => .nil
  | n :: r => .cons (.int n) (RVs.ints r)
/-- data without places, read backward -/
theorem RVs.of_ints : ∀ {ns : List Int} {vs : List V}, RVs K ι H (ns.map D.int) vs → vs = ns.map V.int
  | [], _, .nil => rfl
  | n :: r, _, .cons h t => by cases h; rw [RVs.of_ints (ns := r) t]; rfl
theorem RVs.of_bls : ∀ {ns : List Bool} {vs : List V}, RVs K ι H (ns.map D.bl) vs → vs = ns.map V.bl
  | [], _, .nil => rfl
  | n :: r, _, .cons h t => by cases h; rw [RVs.of_bls (ns := r) t]; rfl
theorem RVs.of_strs : ∀ {ns : List Str} {vs : List V}, RVs K ι H (ns.map D.str) vs → vs = ns.map V.str
  | [], _, .nil => rfl
  | n :: r, _, .cons h t => by cases h; rw [RVs.of_strs (ns := r) t]; rfl
theorem RVs.strs : ∀ (ns : List Str), RVs K ι H (ns.map D.str) (ns.map V.str)
  | [] => .nil
  | n :: r => .cons (.str n) (RVs.strs r)
end

/-- a dict: in the layer's two forms -/
def kD : Key → D
  | .inl i => .int i
  | .inr x => .str x
/-- a dict with any keys that have no texts: by its entries -/
def RawO (a : Addr) (es : Array DictEntry) : HO := .ext fun h => DT.Raw h a es es.size
mutual
def kN : NestedKey → D
  | .none => .non
  | .num i => .int i
  | .text x => .str x
  | .tup ks => .tup (kNs ks)
def kNs : List NestedKey → List D
  | [] => []
  | k :: ks => kN k :: kNs ks
end
mutual
inductive KN (K : PySem.W.Frag) (H : Hp) : NestedKey → V → Prop
  | non : KN K H .none .non
  | num (i : Int) : KN K H (.num i) (.int i)
  | tup {a : Addr} {vs : List V} {ks : List NestedKey} : TpAt K H a vs → KNs K H ks vs → KN K H (.tup ks) (.ref a)
inductive KNs (K : PySem.W.Frag) (H : Hp) : List NestedKey → List V → Prop
  | nil : KNs K H [] []
  | cons {k : NestedKey} {v : V} {ks : List NestedKey} {vs : List V} : KN K H k v → KNs K H ks vs → KNs K H (k :: ks) (v :: vs)
end
section
variable {K : PySem.W.Frag} {ι ι' : List Addr} {H H' : Hp}
mutual
theorem KN.kp (p : Kp ι H ι' H') : ∀ {k : NestedKey} {v : V}, KN K H k v → KN K H' k v
  | _, _, .non => .non
  | _, _, .num i => .num i
  | _, _, .tup h r => .tup (p.rdT h) (KNs.kp p r)
theorem KNs.kp (p : Kp ι H ι' H') : ∀ {k : List NestedKey} {v : List V}, KNs K H k v → KNs K H' k v
  | _, _, .nil => .nil
  | _, _, .cons h r => .cons (KN.kp p h) (KNs.kp p r)
end
mutual
theorem KN.rv : ∀ {k : NestedKey} {v : V}, KN K H k v → RV K ι H (kN k) v
  | _, _, .non => by rw [kN]; exact .non
  | _, _, .num i => by rw [kN]; exact .int i
  | _, _, .tup h r => by rw [kN]; exact .tup h (KNs.rv r)
theorem KNs.rv : ∀ {k : List NestedKey} {v : List V}, KNs K H k v → RVs K ι H (kNs k) v
  | _, _, .nil => by rw [kNs]; exact .nil
  | _, _, .cons h r => by rw [kNs]; exact .cons (KN.rv h) (KNs.rv r)
end
end
def EntV (K : PySem.W.Frag) (H : Hp) (x : NestedKey × V) (e : DictEntry) : Prop := (∃ kv, KN K H x.1 kv ∧ RelV kv e.key) ∧ (∀ w, e.hash = x.1.hash w) ∧ RelV x.2 e.val ∧ x.1.depth ≤ 8
def RawD (K : PySem.W.Frag) (H : Hp) (a : Addr) (ks : List (NestedKey × V)) : Prop := ∃ es, H a = some (RawO a es) ∧ Paired (EntV K H) ks es.toList ∧ (ks.map (·.1)).Nodup ∧ ks.length ≤ sizeLine ∧ (a == sysModules) = false
theorem RawD.kp {K : PySem.W.Frag} {ι ι' : List Addr} {H H' : Hp} {a : Addr} {ks : List (NestedKey × V)} (p : Kp ι H ι' H') (e : H' a = H a) (h : RawD K H a ks) : RawD K H' a ks := by
  obtain ⟨es, h1, h2, h3⟩ := h
  exact ⟨es, by rw [e]; exact h1, Paired.mapP h2 fun x e ⟨⟨kv, z1, z2⟩, z3⟩ => ⟨⟨kv, z1.kp p, z2⟩, z3⟩, h3⟩
/-- the table of the code objects of a def's lambdas -/
def TabF (K : PySem.W.Frag) (H : Hp) (P : Addr) (x : Str) : Prop := (∃ c, PySem.W.tabIn K x = some (c, P)) ∧ ∃ ps : Array Value, H P = some (.tbl ps) ∧ TriplesOk ps.toList ∧
  ∀ (pos : Pos) (cv : Value), codeAmong pos ps.toList = some cv → ∃ c o, cv = .ref c ∧ H c = some (FzO c o) ∧ CodeNm o (x ++ ".<locals>." ++ "<lambda>")
theorem TabF.kp {K : PySem.W.Frag} {ι ι' : List Addr} {H H' : Hp} {a : Addr} {x : Str} (p : Kp ι H ι' H') (e : H' a = H a) (h : TabF K H a x) : TabF K H' a x := by
  obtain ⟨h0, ps, h1, h2, h3⟩ := h
  exact ⟨h0, ps, by rw [e]; exact h1, h2, fun pos cv hc => let ⟨c, o, e1, e2, e3⟩ := h3 pos cv hc; ⟨c, o, e1, p.kp _ _ e2 trivial, e3⟩⟩
/-- what lies at a place -/
def RB (K : PySem.W.Frag) (ι : List Addr) (H : Hp) : Ob → Addr → Prop
  | .lst xs, a => ∃ vs, H a = some (.lst vs) ∧ RVs K ι H xs vs
  | .dct kvs, a => ∃ ks : List (Key × V), H a = some (.dK ks) ∧ Paired (fun (p : D × D) (q : Key × V) => p.1 = kD q.1 ∧ RV K ι H p.2 q.2) kvs ks
  | .dcr kvs, a => ∃ ks : List (NestedKey × V), RawD K H a ks ∧ Paired (fun (p : D × D) (q : NestedKey × V) => p.1 = kN q.1 ∧ RV K ι H p.2 q.2) kvs ks
  | .tab q, a => TabF K H a q
theorem RB.isat {K : PySem.W.Frag} {ι : List Addr} {H : Hp} {b : Ob} {a : Addr} (h : RB K ι H b a) : H a ≠ none := by
  intro z
  cases b with
  | lst xs => obtain ⟨vs, e, _⟩ := h; rw [z] at e; cases e
  | dct kvs => obtain ⟨vs, e, _⟩ := h; rw [z] at e; cases e
  | dcr kvs => obtain ⟨vs, ⟨es, e, _⟩, _⟩ := h; rw [z] at e; cases e
  | tab q => obtain ⟨_, ps, e, _⟩ := h; rw [z] at e; cases e
theorem RB.kp {K : PySem.W.Frag} {ι ι' : List Addr} {H H' : Hp} {b : Ob} {a : Addr} (p : Kp ι H ι' H') (e : H' a = H a) (h : RB K ι H b a) : RB K ι' H' b a := by
  cases b with
  | lst xs => obtain ⟨vs, e1, r⟩ := h; exact ⟨vs, by rw [e]; exact e1, r.kp p⟩
  | dct kvs => obtain ⟨vs, e1, r⟩ := h; exact ⟨vs, by rw [e]; exact e1, Paired.mapP r fun _ _ z => ⟨z.1, z.2.kp p⟩⟩
  | dcr kvs => obtain ⟨vs, e1, r⟩ := h; exact ⟨vs, e1.kp p e, Paired.mapP r fun _ _ z => ⟨z.1, z.2.kp p⟩⟩
  | tab q => exact TabF.kp p e h
theorem RB.mono {K : PySem.W.Frag} {ι ι' : List Addr} {H H' : Hp} {b : Ob} {a : Addr} (p : Le ι H ι' H') (e : H' a = H a) (h : RB K ι H b a) : RB K ι' H' b a := h.kp p.k e

structure RM (K : PySem.W.Frag) (ι : List Addr) (H : Hp) (m : Mem) : Prop where
  nd : ι.Nodup
  len : ι.length = m.length
  ob : ∀ (n : Nat) (b : Ob), m[n]? = some b → ∃ a, ι[n]? = some a ∧ RB K ι H b a
/-- all sizes are within the line -/
def Bnd (K : PySem.W.Frag) (H : Hp) : Prop := ∀ a vs, SqL K H a vs ∨ SqT K H a vs → vs.length ≤ sizeLine
/-- an outcome, seen from the heap H0 ahead of it -/
def RO (K : PySem.W.Frag) (H0 : Hp) (ι : List Addr) (H : Hp) : Out → V → Prop
  | .v d, v => RV K ι H d v
  | .o b, v => ∃ p, v = .ref p ∧ H0 p = none ∧ p ∉ ι ∧ RB K ι H b p
def RS (K : PySem.W.Frag) (ι : List Addr) (H : Hp) (σ : St) (ρ : Env) : Prop := σ.length = ρ.length ∧ ∀ (i : Nat) (d : D), ρ[i]? = some (some d) → ∃ v, σ[i]? = some (some v) ∧ RV K ι H d v
section
variable {K : PySem.W.Frag} {ι ι' ι2 : List Addr} {H H0 H' H2 : Hp} {m m' : Mem} {σ : St} {ρ : Env}
theorem RS.kp (p : Kp ι H ι' H') (h : RS K ι H σ ρ) : RS K ι' H' σ ρ := ⟨h.1, fun i d e => let ⟨v, a, b⟩ := h.2 i d e; ⟨v, a, b.kp p⟩⟩
theorem nofz {o : HO} (mu : Mut (some o)) (f : Fz o) : False := by cases o <;> first | exact mu | exact f
/-- an object is written anew -/
theorem Kp.upd {a : Addr} {o : HO} (mu : Mut (H a)) : Kp ι H ι (L2.upd H a o) := ⟨fun _ _ h => h, fun b u h c => by
  by_cases z : b = a
  · subst z; rw [h] at mu; exact (nofz mu c).elim
  · rw [upd_ne z]; exact h⟩
theorem Kp.newAt {a : Addr} {o : HO} (mu : H a = none) : Kp ι H ι (L2.upd H a o) := ⟨fun _ _ h => h, fun b u h c => by rw [upd_ne (ne_of_none h mu)]; exact h⟩
theorem RS.mono (p : Le ι H ι' H') (h : RS K ι H σ ρ) : RS K ι' H' σ ρ := ⟨h.1, fun i d e => let ⟨v, a, b⟩ := h.2 i d e; ⟨v, a, b.mono p⟩⟩
theorem RM.there (h : RM K ι H m) : ∀ a ∈ ι, H a ≠ none := fun a ha => by
  obtain ⟨n, hn, e⟩ := List.getElem_of_mem ha
  have hm : n < m.length := by rw [← h.len]; exact hn
  obtain ⟨a', e1, rb⟩ := h.ob n m[n] (List.getElem?_eq_getElem hm)
  rw [List.getElem?_eq_getElem hn, e] at e1
  cases e1
  exact rb.isat
theorem Le.subset (p : Le ι H ι' H') : ∀ a ∈ ι, a ∈ ι' := fun a ha => by
  obtain ⟨nw, e, _⟩ := p.pre; rw [e]; exact List.mem_append_left _ ha
theorem Le.thereB (p : Le ι H ι' H') (h : RM K ι' H' m) : ∀ a ∈ ι, H' a ≠ none := fun a ha => h.there a (p.subset a ha)
theorem Le.tr (p : Le ι H ι' H') (h : RM K ι' H' m) (q : Le ι' H' ι2 H2) : Le ι H ι2 H2 := p.trans q (p.thereB h)
theorem Le.back (p : Le ι H ι' H') (h : RM K ι' H' m) {a : Addr} (e : H' a = none) : H a = none := by
  cases q : H a with
  | none => rfl
  | some o =>
    by_cases hi : a ∈ ι
    · exact absurd e (p.thereB h a hi)
    · rw [p.keep a o q (.inr hi)] at e; cases e
/-- an outcome that was there stays -/
theorem RO.mono {r : Out} {v : V} (h : RO K H0 ι H r v) (p : Le ι H ι' H') : RO K H0 ι' H' r v := by
  cases r with
  | v d => exact RV.mono p h
  | o b =>
    obtain ⟨q, e, e0, hi, rb⟩ := h
    have hs := rb.isat
    refine ⟨q, e, e0, fun hm => ?_, ?_⟩
    · obtain ⟨nw, e2, f⟩ := p.pre
      rw [e2] at hm
      rcases List.mem_append.mp hm with z | z
      · exact hi z
      · exact hs (f q z)
    · refine rb.mono p ?_
      cases q1 : H q with
      | none => exact absurd q1 hs
      | some o => exact p.keep q o q1 (.inr hi)
/-- seen from further back -/
theorem RO.from {H1 : Hp} {ι0 : List Addr} {r : Out} {v : V} (h : RO K H1 ι' H' r v) (p : Le ι0 H0 ι H1) (rm : RM K ι H1 m) : RO K H0 ι' H' r v := by
  cases r with
  | v d => exact h
  | o b =>
    obtain ⟨q, e, e0, hi, rb⟩ := h
    exact ⟨q, e, p.back rm e0, hi, rb⟩
def val : Out → Mem → D × Mem
  | .v d, m => (d, m)
  | .o b, m => (.ref m.length, m ++ [b])
@[simp] theorem val_v (d : D) (m : Mem) : val (.v d) m = (d, m) := rfl
@[simp] theorem val_o (b : Ob) (m : Mem) : val (.o b) m = (.ref m.length, m ++ [b]) := rfl
/-- a new object is given a place -/
theorem RO.val {ι0 : List Addr} {r : Out} {v : V} (h : RO K H0 ι H r v) (p : Le ι0 H0 ι H) (rm : RM K ι H m) (rs : RS K ι H σ ρ) :
    ∃ ι', Le ι0 H0 ι' H ∧ RM K ι' H (val r m).2 ∧ RV K ι' H (val r m).1 v ∧ RS K ι' H σ ρ ∧ (∀ d u, RV K ι H d u → RV K ι' H d u) ∧ (∀ ds us, RVs K ι H ds us → RVs K ι' H ds us) := by
  cases r with
  | v d => exact ⟨ι, p, rm, h, rs, fun _ _ z => z, fun _ _ z => z⟩
  | o b =>
    obtain ⟨q, e, e0, hi, rb⟩ := h
    have up : ∀ d u, RV K ι H d u → RV K (ι ++ [q]) H d u := by
      have L : Le ι (fun a => if a = q then none else H a) (ι ++ [q]) H := ⟨⟨[q], rfl, fun a ha => by simp at ha; simp [ha]⟩, fun a o h _ => by
        by_cases z : a = q
        · simp [z] at h
        · simpa [z] using h⟩
      intro d u r
      refine RV.rec (motive_1 := fun d u _ => RV K (ι ++ [q]) H d u) (motive_2 := fun ds us _ => RVs K (ι ++ [q]) H ds us) .non .bl .int .str (fun h _ r => .tup h r) (fun h _ r => .fl h r) (fun h _ r => .par h r) (fun h => .ref (L.ix h)) (fun h _ r => .lam h r) .nil (fun _ _ a b => .cons a b) r
    have ups : ∀ ds us, RVs K ι H ds us → RVs K (ι ++ [q]) H ds us := by
      intro ds us r
      induction r using RVs.rec (motive_1 := fun _ _ _ => True) with
      | nil => exact .nil
      | cons h _ _ ih => exact .cons (up _ _ h) ih
      | _ => trivial
    have upb : ∀ b a, RB K ι H b a → RB K (ι ++ [q]) H b a := fun b a h => by
      cases b with
      | lst xs => obtain ⟨vs, e1, r⟩ := h; exact ⟨vs, e1, ups _ _ r⟩
      | dct kvs => obtain ⟨vs, e1, r⟩ := h; exact ⟨vs, e1, Paired.mapP r fun _ _ z => ⟨z.1, up _ _ z.2⟩⟩
      | dcr kvs => obtain ⟨vs, e1, r⟩ := h; exact ⟨vs, e1, Paired.mapP r fun _ _ z => ⟨z.1, up _ _ z.2⟩⟩
      | tab q => exact h
    obtain ⟨nw, e1, f1⟩ := p.pre
    refine ⟨ι ++ [q], ⟨⟨nw ++ [q], by rw [e1, List.append_assoc], fun a ha => ?_⟩, fun a o h c => p.keep a o h c⟩, ⟨?_, ?_, fun n b' hb => ?_⟩, ?_, ⟨rs.1, fun i d e => let ⟨v, a, b⟩ := rs.2 i d e; ⟨v, a, up _ _ b⟩⟩, up, ups⟩
    · rcases List.mem_append.mp ha with z | z
      · exact f1 a z
      · simp at z; rw [z]; exact e0
    · rw [List.nodup_append]
      exact ⟨rm.nd, by simp, fun a ha b hb => by simp at hb; subst hb; intro z; subst z; exact hi ha⟩
    · show (ι ++ [q]).length = (m ++ [b]).length
      simp [rm.len]
    · have hb' : (m ++ [b])[n]? = some b' := hb
      by_cases hn : n < m.length
      · rw [List.getElem?_append_left hn] at hb'
        obtain ⟨a, e2, rb2⟩ := rm.ob n b' hb'
        exact ⟨a, by rw [List.getElem?_append_left (by rw [rm.len]; exact hn)]; exact e2, upb _ _ rb2⟩
      · rw [List.getElem?_append_right (by omega)] at hb'
        have : n = m.length := by
          by_cases z : n - m.length = 0
          · omega
          · rw [List.getElem?_eq_none (by simp; omega)] at hb'; cases hb'
        subst this
        simp at hb'
        subst hb'
        refine ⟨q, ?_, upb _ _ rb⟩
        rw [← rm.len]; simp
    · subst e
      refine .ref ?_
      rw [← rm.len]; simp
end
end Q
/-! new tuples are plain: the layer's rules, telling so -/
namespace Q
open PySem L2
open PyProof.Rows (IsTup)
abbrev TpN (H : Hp) (xs : List V) (Q : VK) : Prop := ∀ p o, H p = none → o.dict = none → Q (.ref p) (upd H p (.frz o (.tup xs)))
theorem tup_ok {P : Program} {w : World} {H : Hp} {h : Heap} {a : Addr} {xs : List V} {us : List Value} {ar : Array Value} {n : Nat} (z : xs.length ≤ sizeLine) (r : Vals xs us) (e : ar = us.toArray) (g : h.get? a = some { cls := .type "tuple", data := .seq ar n }) : ObjOk P w H h a (.frz { cls := .type "tuple", data := .seq ar n } (.tup xs)) := by
  subst e
  exact ⟨g, z, us, r, _, g, rfl, n, rfl⟩
section
variable {X : Cx}
def tTupN (t : TA) : TE := fun σ H Q => t σ H fun xs H1 => xs.length ≤ sizeLine ∧ TpN H1 xs Q
theorem pe_tupN {es : List Expr} {t : TA} {x1 : Nat} {pos : Pos} (h : PA X es t) : PE X (.Tuple es x1 pos) (tTupN t) := by
  refine ⟨fun pins s σ H Q I hq => ?_⟩
  refine PySem.wpAny_Tuple_spliced (thn (h.run pos pins s σ H _ I hq) fun us s1 ⟨xs, H1, I1, r, z, q⟩ => ⟨by rw [← r.length]; exact z, ?_⟩)
  have hf : H1 s1.heap.objs.size = none := I1.hok.fresh (Nat.le_refl _)
  exact ⟨.ref s1.heap.objs.size, upd H1 s1.heap.objs.size (.frz _ (.tup xs)), I1.laid (t' := s1.toks) (fun b u e => Heap.get?_push_of_some _ e) (Nat.le_refl _) (tup_ok z r rfl (Heap.get?_push_size _ rfl)), rfl, q _ _ hf rfl⟩
theorem call_tuple_ofN : CallR X (.type "tuple") (fun xs H Q => ∃ p ys, xs = [.ref p] ∧ ((SqL X.K H p ys ∧ TpN H ys Q) ∨ (SqT X.K H p ys ∧ Q (.ref p) H))) := by
  intro pins s σ H xs us Q I r h
  obtain ⟨p, ys, rfl, h⟩ := h
  obtain ⟨u, rfl, rx⟩ := vals1 r
  cases rx
  rcases h with ⟨hq, q⟩ | ⟨hq, q⟩
  · obtain ⟨its, r', pl, hz⟩ := I.list hq
    have hlen := r'.length
    refine PySem.call_tuple_list pl.isList (fun h' kp => ?_) (by simp only [List.size_toArray] <;> omega)
    have I1 : Inv X pins σ H { s with heap := h' } := I.kept (t' := s.toks) kp
    have I2 : Inv X pins σ (upd H h'.objs.size (.frz { cls := .type "tuple", data := .seq its.toArray } (.tup ys))) { s with heap := h'.push { cls := .type "tuple", data := .seq its.toArray } } :=
      I1.laid (t' := s.toks) (fun b o e => Heap.get?_push_of_some _ e) (Nat.le_refl _) (tup_ok hz r' rfl (Heap.get?_push_size _ rfl))
    exact ⟨.ref h'.objs.size, _, I2, rfl, q _ _ (I1.hok.fresh (Nat.le_refl _)) rfl⟩
  · obtain ⟨its, r', pl, hz⟩ := I.tuple hq
    exact PySem.call_tuple_same pl ⟨.ref p, H, I, rfl, q⟩
def rSlN (K : PySem.W.Frag) : V → Option Int → Option Int → Hp → VK → Prop := fun x lo hi H Q => ∃ a xs, x = .ref a ∧ SqT K H a xs ∧
  (HT.sIx xs.length 0 lo = 0 ∧ HT.sIx xs.length xs.length hi = xs.length → Q (.ref a) H) ∧ (¬ (HT.sIx xs.length 0 lo = 0 ∧ HT.sIx xs.length xs.length hi = xs.length) → TpN H (cutV xs lo hi) Q)
theorem sl_tupN : SlR X (rSlN X.K) := by
  intro pins s σ H x v vl vu lo hi sl Q I rx hs pl pu h
  obtain ⟨a, xs, rfl, hx, q1, q2⟩ := h
  cases rx
  obtain ⟨its, r, ht, hz⟩ := I.tuple hx
  have hlen : its.toArray.size = xs.length := by rw [List.size_toArray]; exact r.length.symm
  by_cases hw : HT.sIx xs.length 0 lo = 0 ∧ HT.sIx xs.length xs.length hi = xs.length
  · refine ⟨"tuple", _, PyProof.Rows.slot_tuple_getitem.lookup, ht.typeIs, ?_⟩
    exact getItem_tuple_whole ht hs pl pu (by rw [hlen]; exact hw) ⟨.ref a, H, I, rfl, q1 hw⟩
  · refine ⟨"tuple", _, PyProof.Rows.slot_tuple_getitem.lookup, ht.typeIs, ?_⟩
    refine HT.getItem_tuple_cut ht hs pl pu (by rw [hlen]; exact hw) ?_ (by rw [hlen]; exact hz)
    rw [hlen]
    exact ⟨.ref s.heap.objs.size, _, I.laid (t' := s.toks) (o := .frz _ (.tup (cutV xs lo hi))) (fun b ob q => Heap.get?_push_of_some _ q) (Nat.le_refl _) (tup_ok (Nat.le_trans (cutV_length xs lo hi) hz) ((r.drop (HT.sIx xs.length 0 lo)).take (HT.sIx xs.length xs.length hi - HT.sIx xs.length 0 lo)) rfl (Heap.get?_push_size _ rfl)), rfl, q2 hw _ _ (I.hok.fresh (Nat.le_refl _)) rfl⟩
def rCatN (K : PySem.W.Frag) : R2 := fun x y H Q => ∃ a b xs ys, x = .ref a ∧ y = .ref b ∧ SqT K H a xs ∧ SqT K H b ys ∧ xs.length + ys.length ≤ sizeLine ∧
  (xs = [] → Q (.ref b) H) ∧ (xs ≠ [] → ys = [] → Q (.ref a) H) ∧ (xs ≠ [] → ys ≠ [] → TpN H (xs ++ ys) Q)
theorem nil_iffV {xs : List V} {us : List Value} (r : Vals xs us) : us = [] ↔ xs = [] := by
  cases r with
  | nil => simp
  | cons _ _ => simp
theorem op_catN : OpR X (binaryOp .Add) (rCatN X.K) := by
  intro pins s σ H x y v u Q I rx ry h
  obtain ⟨a, b, xs, ys, rfl, rfl, ha, hb, hz, q0, q1, q2⟩ := h
  cases rx
  cases ry
  obtain ⟨its, r1, p1, _⟩ := I.tuple ha
  obtain ⟨its2, r2, p2, _⟩ := I.tuple hb
  by_cases hx : xs = []
  · subst hx
    cases r1
    exact cat_tup0 p1 p2 ⟨.ref b, H, I, rfl, q0 rfl⟩
  · refine HT.cat_tup p1 p2 (fun z => hx ((nil_iffV r1).mp z)) (fun z => ⟨.ref a, H, I, rfl, q1 hx ((nil_iffV r2).mp z)⟩) (fun z => ?_) (by rw [← r1.length, ← r2.length]; exact hz)
    exact ⟨.ref s.heap.objs.size, _, I.laid (t' := s.toks) (o := .frz _ (.tup (xs ++ ys))) (fun b ob q => Heap.get?_push_of_some _ q) (Nat.le_refl _) (tup_ok (by rw [List.length_append]; exact hz) (r1.append r2) rfl (Heap.get?_push_size _ rfl)), rfl, q2 hx (fun w => z ((nil_iffV r2).mpr w)) _ _ (I.hok.fresh (Nat.le_refl _)) rfl⟩
variable {e : Expr} {te : St → Hp → (Int → Int → Hp → Prop) → Prop}
def tTupRgN (te : St → Hp → (Int → Int → Hp → Prop) → Prop) : TE := fun σ H Q => te σ H fun a b H1 => RgOk a b ∧ TpN H1 (rgV a b) Q
theorem pe_tupRgN {p pos : Pos} (hc : X.calm = true) (hg : Gl X "tuple") (hm : X.mg "tuple" = none) (he : PRg X e te) (na : starEach [e] X.env = (false, eval e X.env) :: starEach [] X.env := by rfl) : PE X (.Call (.Name "tuple" p) [e] [] pos) (tTupRgN te) := by
  refine ⟨fun pins s σ H Q I h => ?_⟩
  refine PyProof.Rows.Call_ (ld_blt I hg hm PyProof.Rows.boot_tuple (PyProof.Rows.callWith_type1 (PyProof.Rows.args_cons (thn (he pins s σ H _ I h) fun x s1 ⟨r, a, b, t, u, v, H1, ex, hr, I1, ok, q⟩ => PyProof.Rows.args_nil ?_) na) na))
  subst ex
  obtain ⟨b1, b2, b3, b4, b5⟩ := ok
  refine call_tuple_range (n := (b - a).toNat) (I1.ok.hd hc) hr (small_one b1 b2 b3 b4) (PyProof.Rows.rangeSize_nat a b) b5 fun h' tk acc hk hi => ?_
  have I2 : Inv X pins σ H1 { s1 with heap := h', toks := tk } := I1.kept hk
  refine ⟨.ref h'.objs.size, upd H1 h'.objs.size (.frz _ (.tup (rgV a b))), I2.laid (t' := tk) (fun c o e => Heap.get?_push_of_some _ e) (Nat.le_refl _) (tup_ok ?_ (vals_rg hi) (by simp) (Heap.get?_push_size _ rfl)), rfl, q _ _ (I2.hok.fresh (Nat.le_refl _)) rfl⟩
  rw [rgV_length, sizeLine_eq]; omega
end
end Q
namespace Q
open PySem L2

/-! ### readings -/
def tE (K : PySem.W.Frag) (f : E) : TE := fun σ H Q => ∃ ι ρ m r m', RS K ι H σ ρ ∧ RM K ι H m ∧ f ρ m = some (r, m') ∧
  ∀ v ι' H', Le ι H ι' H' → RM K ι' H' m' → RO K H ι' H' r v → Bnd K H' → Q v H'
def tT (K : PySem.W.Frag) (f : B) : TT := fun σ H Q => ∃ ι ρ m r m', RS K ι H σ ρ ∧ RM K ι H m ∧ f ρ m = some (r, m') ∧
  ∀ ι' H', Le ι H ι' H' → RM K ι' H' m' → Bnd K H' → Q r H'
def tA (K : PySem.W.Frag) (f : A) : TA := fun σ H Q => ∃ ι ρ m ds m', RS K ι H σ ρ ∧ RM K ι H m ∧ f ρ m = some (ds, m') ∧
  ∀ vs ι' H', Le ι H ι' H' → RM K ι' H' m' → RVs K ι' H' ds vs → Bnd K H' → Q vs H'
def PR (K : PySem.W.Frag) (ι : List Addr) (H : Hp) (D : Ends) : R → Prop
  | .nx ρ m => ∀ σ ι' H', Le ι H ι' H' → RS K ι' H' σ ρ → RM K ι' H' m → D.nx σ H'
  | .rt r m => ∀ v ι' H', Le ι H ι' H' → RM K ι' H' m → RO K H ι' H' r v → D.rt v H'
  | .bk ρ m => ∀ σ ι' H', Le ι H ι' H' → RS K ι' H' σ ρ → RM K ι' H' m → D.bk σ H'
  | .ct ρ m => ∀ σ ι' H', Le ι H ι' H' → RS K ι' H' σ ρ → RM K ι' H' m → D.ct σ H'
def tS (K : PySem.W.Frag) (f : S) : TS := fun D σ H => ∃ ι ρ m r, RS K ι H σ ρ ∧ RM K ι H m ∧ f ρ m = some r ∧ PR K ι H D r
abbrev SE (X : Cx) (e : Expr) (f : E) : Prop := PE X e (tE X.K f)
abbrev ST (X : Cx) (e : Expr) (f : B) : Prop := PT X e (tT X.K f)
abbrev SW (X : Cx) (e : Expr) (f : B) : Prop := PW X e (tT X.K f)
abbrev SA (X : Cx) (es : List Expr) (f : A) : Prop := PA X es (tA X.K f)
abbrev SS (X : Cx) (st : Stmt) (f : S) : Prop := PS X st (tS X.K f)
abbrev SSs (X : Cx) (st : List Stmt) (f : S) : Prop := PSs X st (tS X.K f)

theorem PR.from {K : PySem.W.Frag} {ι ι1 : List Addr} {H H1 : Hp} {m : Mem} {D : Ends} (p : Le ι H ι1 H1) (rm : RM K ι1 H1 m) {r : R} (h : PR K ι H D r) : PR K ι1 H1 D r := by
  cases r with
  | nx ρ m' => exact fun σ ι' H' q a b => h σ ι' H' (p.tr rm q) a b
  | bk ρ m' => exact fun σ ι' H' q a b => h σ ι' H' (p.tr rm q) a b
  | ct ρ m' => exact fun σ ι' H' q a b => h σ ι' H' (p.tr rm q) a b
  | rt r m' => exact fun v ι' H' q a b => h v ι' H' (p.tr rm q) a (b.from p rm)

section
variable {X : Cx}
theorem bnd_of {pins : List (Addr × Obj)} {σ : St} {H : Hp} {s : Shared} (I : Inv X pins σ H s) : Bnd X.K H := fun a vs h => by
  rcases h with h | h
  · obtain ⟨_, _, _, z⟩ := I.list h; exact z
  · obtain ⟨_, _, _, z⟩ := I.tuple h; exact z
theorem pe_imp {e : Expr} {t t' : TE} (h : PE X e t) (hh : ∀ σ H Q, t' σ H Q → t σ H fun v H' => Bnd X.K H' → Q v H') : PE X e t' :=
  ⟨fun pins s σ H Q I q => thn (h.run pins s σ H _ I (hh σ H Q q)) fun u s1 ⟨v, H1, I1, r1, q1⟩ => ⟨v, H1, I1, r1, q1 (bnd_of I1)⟩⟩
theorem pt_imp {e : Expr} {t t' : TT} (h : PT X e t) (hh : ∀ σ H Q, t' σ H Q → t σ H fun v H' => Bnd X.K H' → Q v H') : PT X e t' :=
  ⟨fun pins s σ H Q I q => thn (h.run pins s σ H _ I (hh σ H Q q)) fun u s1 ⟨H1, I1, q1⟩ => ⟨H1, I1, q1 (bnd_of I1)⟩⟩
theorem pw_imp {e : Expr} {t t' : TT} (h : PW X e t) (hh : ∀ σ H Q, t' σ H Q → t σ H fun v H' => Bnd X.K H' → Q v H') : PW X e t' :=
  ⟨fun wh pins s σ H Q I q => thn (h.run wh pins s σ H _ I (hh σ H Q q)) fun u s1 ⟨H1, I1, q1⟩ => ⟨H1, I1, q1 (bnd_of I1)⟩⟩
theorem pa_imp {es : List Expr} {t t' : TA} (h : PA X es t) (hh : ∀ σ H Q, t' σ H Q → t σ H fun v H' => Bnd X.K H' → Q v H') : PA X es t' :=
  ⟨fun pos pins s σ H Q I q => thn (h.run pos pins s σ H _ I (hh σ H Q q)) fun u s1 ⟨v, H1, I1, r1, q1⟩ => ⟨v, H1, I1, r1, q1 (bnd_of I1)⟩⟩
theorem ps_imp {st : Stmt} {t t' : TS} (h : PS X st t) (hh : ∀ D σ H, t' D σ H → t D σ H) : PS X st t' := ⟨fun pins s σ H D I q => h.run pins s σ H D I (hh D σ H q)⟩
theorem pss_imp {st : List Stmt} {t t' : TS} (h : PSs X st t) (hh : ∀ D σ H, t' D σ H → t D σ H) : PSs X st t' := ⟨fun pins s σ H D I q => h.run pins s σ H D I (hh D σ H q)⟩
theorem pi_imp {tg it : Expr} {t t' : TI} (h : PI X tg it t) (hh : ∀ σ H R, t' σ H R → t σ H fun J H' => Bnd X.K H' → R J H') : PI X tg it t' :=
  ⟨fun pins s σ H R I q => thn (h.run pins s σ H _ I (hh σ H R q)) fun u s1 h1 => thn h1 fun v s2 ⟨it, fp, tn, J, H', e, I', T, t0, f, r⟩ => ⟨it, fp, tn, J, H', e, I', T, t0, f, r (bnd_of I')⟩⟩
theorem pg_imp {tg : Expr} {t t' : TG} (h : PG X tg t) (hh : ∀ v σ H Q, t' v σ H Q → t v σ H Q) : PG X tg t' := ⟨fun pins s σ H v u Q I r q => h.run pins s σ H v u Q I r (hh v σ H Q q)⟩
end

/-! ### expressions -/
@[simp] def eVar (i : Nat) (ρ : Env) (m : Mem) : Option (Out × Mem) := match ρ[i]? with | some (some d) => some (.v d, m) | _ => none
@[simp] def eC (d : D) (_ : Env) (m : Mem) : Option (Out × Mem) := some (.v d, m)
abbrev F2 := Out → Out → Mem → Option (Out × Mem)
abbrev F1 := Out → Mem → Option (Out × Mem)
@[simp] def eBin (f : F2) (a b : E) (ρ : Env) (m : Mem) : Option (Out × Mem) := (a ρ m).bind fun x => (b ρ x.2).bind fun y => f x.1 y.1 y.2
@[simp] def eUn (f : F1) (a : E) (ρ : Env) (m : Mem) : Option (Out × Mem) := (a ρ m).bind fun x => f x.1 x.2
@[simp] def eAnd (a b : E) (ρ : Env) (m : Mem) : Option (Out × Mem) := (a ρ m).bind fun x => match x.1 with | .v (.bl true) => b ρ x.2 | .v (.bl false) => some (.v (.bl false), x.2) | _ => none
@[simp] def eOr (a b : E) (ρ : Env) (m : Mem) : Option (Out × Mem) := (a ρ m).bind fun x => match x.1 with | .v (.bl false) => b ρ x.2 | .v (.bl true) => some (.v (.bl true), x.2) | _ => none
@[simp] def eNot (a : E) (ρ : Env) (m : Mem) : Option (Out × Mem) := (a ρ m).bind fun x => match x.1 with | .v (.bl b) => some (.v (.bl (!b)), x.2) | _ => none
@[simp] def eIf (c : B) (a b : E) (ρ : Env) (m : Mem) : Option (Out × Mem) := (c ρ m).bind fun x => match x.1 with | true => a ρ x.2 | false => b ρ x.2
@[simp] def bOf (a : E) (ρ : Env) (m : Mem) : Option (Bool × Mem) := (a ρ m).bind fun x => match x.1 with | .v (.bl b) => some (b, x.2) | _ => none
@[simp] def bAnd (a b : B) (ρ : Env) (m : Mem) : Option (Bool × Mem) := (a ρ m).bind fun x => match x.1 with | true => b ρ x.2 | false => some (false, x.2)
@[simp] def bOr (a b : B) (ρ : Env) (m : Mem) : Option (Bool × Mem) := (a ρ m).bind fun x => match x.1 with | false => b ρ x.2 | true => some (true, x.2)
@[simp] def bNot (a : B) (ρ : Env) (m : Mem) : Option (Bool × Mem) := (a ρ m).bind fun x => some (!x.1, x.2)
@[simp] def bYes (_ : Env) (m : Mem) : Option (Bool × Mem) := some (true, m)
@[simp] def aNil (_ : Env) (m : Mem) : Option (List D × Mem) := some ([], m)
@[simp] def aCons (a : E) (r : A) (ρ : Env) (m : Mem) : Option (List D × Mem) := (a ρ m).bind fun x => (r ρ (val x.1 x.2).2).bind fun y => some ((val x.1 x.2).1 :: y.1, y.2)
@[simp] noncomputable def eTup (a : A) (ρ : Env) (m : Mem) : Option (Out × Mem) := (a ρ m).bind fun x => if fits x.1.length then some (.v (.tup x.1), x.2) else none
@[simp] noncomputable def eLst (a : A) (ρ : Env) (m : Mem) : Option (Out × Mem) := (a ρ m).bind fun x => if fits x.1.length then some (.o (.lst x.1), x.2) else none
@[simp] def eCall (F : Fn) (a : A) (ρ : Env) (m : Mem) : Option (Out × Mem) := (a ρ m).bind fun x => F x.1 x.2

/-- what a two-place rule of the layer is to give for a plain function -/
def R2S (K : PySem.W.Frag) (r : R2) (f : F2) : Prop := ∀ (ι : List Addr) (H H0 : Hp) (m : Mem) (x y z : Out) (vx vy : V) (m' : Mem) (Q : VK), RM K ι H m → Bnd K H → RO K H0 ι H x vx → RO K H0 ι H y vy → f x y m = some (z, m') →
  (∀ v ι' H', Le ι H ι' H' → RM K ι' H' m' → RO K H ι' H' z v → Q v H') → r vx vy H Q
def R1S (K : PySem.W.Frag) (r : V → Hp → VK → Prop) (f : F1) : Prop := ∀ (ι : List Addr) (H H0 : Hp) (m : Mem) (x z : Out) (vx : V) (m' : Mem) (Q : VK), RM K ι H m → Bnd K H → RO K H0 ι H x vx → f x m = some (z, m') →
  (∀ v ι' H', Le ι H ι' H' → RM K ι' H' m' → RO K H ι' H' z v → Q v H') → r vx H Q
theorem bind_some {α β : Type} {x : Option α} {f : α → Option β} {b : β} (h : x.bind f = some b) : ∃ a, x = some a ∧ f a = some b := by
  cases x with
  | none => cases h
  | some a => exact ⟨a, rfl, h⟩
section
variable {X : Cx} {e a b c : Expr} {pos : Pos} {fa fb : E} {ca cb : B}
theorem se_var {i : Nat} (h : PE X e (tVar i)) : SE X e (eVar i) := pe_imp h fun σ H Q ⟨ι, ρ, m, r, m', rs, rm, hf, k⟩ => by
  unfold eVar at hf
  split at hf
  · rename_i d hd
    cases hf
    obtain ⟨v, e1, e2⟩ := rs.2 i d hd
    exact ⟨v, e1, fun bd => k v ι H (Le.refl _ _) rm e2 bd⟩
  · cases hf
theorem se_c {v : V} {d : D} (h : PE X e (tC v)) (hr : ∀ K ι H, RV K ι H d v) : SE X e (eC d) := pe_imp h fun σ H Q ⟨ι, ρ, m, r, m', rs, rm, hf, k⟩ => by
  cases hf
  exact fun bd => k v ι H (Le.refl _ _) rm (hr _ _ _) bd
theorem tOp_of {K : PySem.W.Frag} {ι : List Addr} {ρ : Env} {σ : St} {H : Hp} {m m' : Mem} {z : Out} {Q : VK} {r : R2} {f : F2} (hr : R2S K r f) (rs : RS K ι H σ ρ) (rm : RM K ι H m) (hf : eBin f fa fb ρ m = some (z, m'))
    (k : ∀ v ι' H', Le ι H ι' H' → RM K ι' H' m' → RO K H ι' H' z v → Q v H') : tOp r (tE K fa) (tE K fb) σ H Q := by
  obtain ⟨x, h1, hf⟩ := bind_some hf
  obtain ⟨y, h2, hf⟩ := bind_some hf
  refine ⟨ι, ρ, m, x.1, x.2, rs, rm, h1, fun v ι1 H1 l1 rm1 ro1 bd1 => ?_⟩
  refine ⟨ι1, ρ, x.2, y.1, y.2, rs.mono l1, rm1, h2, fun u ι2 H2 l2 rm2 ro2 bd2 => ?_⟩
  exact hr ι2 H2 H y.2 x.1 y.1 z v u m' _ rm2 bd2 (ro1.mono l2) (ro2.from l1 rm1) hf fun w ι3 H3 l3 rm3 ro3 => k w ι3 H3 (l1.tr rm1 (l2.tr rm2 l3)) rm3 (ro3.from (l1.tr rm1 l2) rm2)
theorem se_op {op : Operator} {r : R2} {f : F2} (ho : OpR X (binaryOp op) r) (hr : R2S X.K r f) (ha : SE X a fa) (hb : SE X b fb) : SE X (.BinOp a op b pos) (eBin f fa fb) :=
  pe_imp (pe_op ho ha hb) fun σ H Q ⟨ι, ρ, m, z, m', rs, rm, hf, k⟩ => tOp_of hr rs rm hf k
theorem se_cmp {op : CmpOp} {r : R2} {f : F2} (ho : OpR X (compareOp op) r) (hr : R2S X.K r f) (ha : SE X a fa) (hb : SE X b fb) (hm : behindInMarks op b = false) : SE X (.Compare a [op] [b] pos) (eBin f fa fb) :=
  pe_imp (pe_cmpR ho ha hb hm) fun σ H Q ⟨ι, ρ, m, z, m', rs, rm, hf, k⟩ => tOp_of hr rs rm hf k
theorem se_ix {r : R2} {f : F2} (ho : IxR X r) (hr : R2S X.K r f) (ha : SE X a fa) (hb : SE X b fb) (hs : PlainIx b) : SE X (.Subscript a b pos) (eBin f fa fb) :=
  pe_imp (pe_ix ho ha hb hs) fun σ H Q ⟨ι, ρ, m, z, m', rs, rm, hf, k⟩ => tOp_of hr rs rm hf k
theorem st_cmp {op : CmpOp} {r : R2} {f : F2} (ho : OpR X (compareOp op) r) (hr : R2S X.K r f) (ha : SE X a fa) (hb : SE X b fb) (hm : behindInMarks op b = false) : ST X (.Compare a [op] [b] pos) (bOf (eBin f fa fb)) :=
  pt_imp (pt_cmpR ho ha hb hm) fun σ H Q ⟨ι, ρ, m, z, m', rs, rm, hf, k⟩ => by
    obtain ⟨x, h2, hf⟩ := bind_some hf
    refine tOp_of hr rs rm (z := x.1) (m' := x.2) h2 fun v ι1 H1 l1 rm1 ro1 => ?_
    split at hf
    · rename_i e1; rw [e1] at ro1; cases ro1; cases hf
      exact ⟨_, rfl, fun bd => k ι1 H1 l1 rm1 bd⟩
    · cases hf
theorem se_un {op : UnaryOp} {r : V → Hp → VK → Prop} {f : F1} (ho : UnR X (unaryOp op) r) (hr : R1S X.K r f) (ha : SE X a fa) (h0 : PE X (.UnaryOp op a pos) (tUn r (tE X.K fa))) : SE X (.UnaryOp op a pos) (eUn f fa) :=
  pe_imp h0 fun σ H Q ⟨ι, ρ, m, z, m', rs, rm, hf, k⟩ => by
    obtain ⟨x, h1, hf⟩ := bind_some hf
    refine ⟨ι, ρ, m, x.1, x.2, rs, rm, h1, fun v ι1 H1 l1 rm1 ro1 bd1 => ?_⟩
    exact hr ι1 H1 H x.2 x.1 z v m' _ rm1 bd1 ro1 hf fun w ι3 H3 l3 rm3 ro3 bd3 => k w ι3 H3 (l1.tr rm1 l3) rm3 (ro3.from l1 rm1) bd3
/-- a chain a op b op' c -/
@[simp] def eChain (f g : F2) (a b c : E) (ρ : Env) (m : Mem) : Option (Out × Mem) := (a ρ m).bind fun x => (b ρ x.2).bind fun y => (f x.1 y.1 y.2).bind fun z => match z.1 with
  | .v (.bl true) => (c ρ z.2).bind fun w => g y.1 w.1 w.2
  | .v (.bl false) => some (.v (.bl false), z.2)
  | _ => none
theorem tChain_of {K : PySem.W.Frag} {ι : List Addr} {ρ : Env} {σ : St} {H : Hp} {m m' : Mem} {z : Out} {Q : VK} {r r' : R2} {f g : F2} {fc : E} (hr : R2S K r f) (hr' : R2S K r' g) (rs : RS K ι H σ ρ) (rm : RM K ι H m) (hf : eChain f g fa fb fc ρ m = some (z, m'))
    (k : ∀ v ι' H', Le ι H ι' H' → RM K ι' H' m' → RO K H ι' H' z v → Q v H') : tChain r r' (tE K fa) (tE K fb) (tE K fc) σ H Q := by
  obtain ⟨x, h1, hf⟩ := bind_some hf
  obtain ⟨y, h2, hf⟩ := bind_some hf
  obtain ⟨t, h3, hf⟩ := bind_some hf
  obtain ⟨t1, t2⟩ := t
  refine ⟨ι, ρ, m, x.1, x.2, rs, rm, h1, fun v ι1 H1 l1 rm1 ro1 bd1 => ?_⟩
  refine ⟨ι1, ρ, x.2, y.1, y.2, rs.mono l1, rm1, h2, fun u ι2 H2 l2 rm2 ro2 bd2 => ?_⟩
  refine hr ι2 H2 H y.2 x.1 y.1 t1 v u t2 _ rm2 bd2 (ro1.mono l2) (ro2.from l1 rm1) h3 fun w ι3 H3 l3 rm3 ro3 => ?_
  split at hf
  · rename_i e1
    simp only at e1
    subst e1
    cases ro3
    obtain ⟨q, h4, hf⟩ := bind_some hf
    refine ⟨true, rfl, ?_⟩
    rw [if_pos rfl]
    refine ⟨ι3, ρ, t2, q.1, q.2, ((rs.mono l1).mono l2).mono l3, rm3, h4, fun w' ι4 H4 l4 rm4 ro4 bd4 => ?_⟩
    exact hr' ι4 H4 H q.2 y.1 q.1 z u w' m' _ rm4 bd4 (((ro2.mono l3).mono l4).from l1 rm1) (ro4.from (l1.tr rm1 (l2.tr rm2 l3)) rm3) hf fun w5 ι5 H5 l5 rm5 ro5 =>
      k w5 ι5 H5 (l1.tr rm1 (l2.tr rm2 (l3.tr rm3 (l4.tr rm4 l5)))) rm5 (ro5.from (l1.tr rm1 (l2.tr rm2 (l3.tr rm3 l4))) rm4)
  · rename_i e1
    simp only at e1
    subst e1
    cases ro3
    cases hf
    refine ⟨false, rfl, ?_⟩
    rw [if_neg Bool.false_ne_true]
    exact k _ ι3 H3 (l1.tr rm1 (l2.tr rm2 l3)) rm3 (RV.bl false)
  · cases hf
theorem se_chain {r r' : R2} {f g : F2} {fc : E} (h0 : PE X e (tChain r r' (tE X.K fa) (tE X.K fb) (tE X.K fc))) (hr : R2S X.K r f) (hr' : R2S X.K r' g) : SE X e (eChain f g fa fb fc) :=
  pe_imp h0 fun σ H Q ⟨ι, ρ, m, z, m', rs, rm, hf, k⟩ => tChain_of hr hr' rs rm hf k
theorem st_chain {r r' : R2} {f g : F2} {fc : E} (h0 : PT X e (tTest (tChain r r' (tE X.K fa) (tE X.K fb) (tE X.K fc)))) (hr : R2S X.K r f) (hr' : R2S X.K r' g) : ST X e (bOf (eChain f g fa fb fc)) :=
  pt_imp h0 fun σ H Q ⟨ι, ρ, m, z, m', rs, rm, hf, k⟩ => by
    obtain ⟨x, h2, hf⟩ := bind_some hf
    refine tChain_of hr hr' rs rm (z := x.1) (m' := x.2) h2 fun v ι1 H1 l1 rm1 ro1 => ?_
    split at hf
    · rename_i e1; rw [e1] at ro1; cases ro1; cases hf
      exact ⟨_, rfl, fun bd => k ι1 H1 l1 rm1 bd⟩
    · cases hf
theorem se_and {rest : List Expr} (ha : SE X a fa) (hb : SE X (.BoolOp .And (b :: rest) pos) fb) (h0 : PE X (.BoolOp .And (a :: b :: rest) pos) (tAndV (tE X.K fa) (tE X.K fb))) : SE X (.BoolOp .And (a :: b :: rest) pos) (eAnd fa fb) :=
  pe_imp h0 fun σ H Q ⟨ι, ρ, m, z, m', rs, rm, hf, k⟩ => by
    obtain ⟨x, h1, hf⟩ := bind_some hf
    refine ⟨ι, ρ, m, x.1, x.2, rs, rm, h1, fun v ι1 H1 l1 rm1 ro1 bd1 => ?_⟩
    split at hf
    · rename_i e1; rw [e1] at ro1; cases ro1
      refine ⟨true, rfl, ?_⟩
      rw [if_pos rfl]
      exact ⟨ι1, ρ, x.2, z, m', rs.mono l1, rm1, hf, fun w ι3 H3 l3 rm3 ro3 bd3 _ => k w ι3 H3 (l1.tr rm1 l3) rm3 (ro3.from l1 rm1) bd3⟩
    · rename_i e1; rw [e1] at ro1; cases ro1; cases hf
      refine ⟨false, rfl, ?_⟩
      rw [if_neg Bool.false_ne_true]
      exact fun bd => k _ ι1 H1 l1 rm1 (RV.bl false) bd
    · cases hf
theorem se_or {rest : List Expr} (ha : SE X a fa) (hb : SE X (.BoolOp .Or (b :: rest) pos) fb) (h0 : PE X (.BoolOp .Or (a :: b :: rest) pos) (tOrV (tE X.K fa) (tE X.K fb))) : SE X (.BoolOp .Or (a :: b :: rest) pos) (eOr fa fb) :=
  pe_imp h0 fun σ H Q ⟨ι, ρ, m, z, m', rs, rm, hf, k⟩ => by
    obtain ⟨x, h1, hf⟩ := bind_some hf
    refine ⟨ι, ρ, m, x.1, x.2, rs, rm, h1, fun v ι1 H1 l1 rm1 ro1 bd1 => ?_⟩
    split at hf
    · rename_i e1; rw [e1] at ro1; cases ro1
      refine ⟨false, rfl, ?_⟩
      rw [if_neg Bool.false_ne_true]
      exact ⟨ι1, ρ, x.2, z, m', rs.mono l1, rm1, hf, fun w ι3 H3 l3 rm3 ro3 bd3 _ => k w ι3 H3 (l1.tr rm1 l3) rm3 (ro3.from l1 rm1) bd3⟩
    · rename_i e1; rw [e1] at ro1; cases ro1; cases hf
      refine ⟨true, rfl, ?_⟩
      rw [if_pos rfl]
      exact fun bd => k _ ι1 H1 l1 rm1 (RV.bl true) bd
    · cases hf
theorem se_not (h0 : PE X (.UnaryOp .Not a pos) (tNotV (tE X.K fa))) : SE X (.UnaryOp .Not a pos) (eNot fa) :=
  pe_imp h0 fun σ H Q ⟨ι, ρ, m, z, m', rs, rm, hf, k⟩ => by
    obtain ⟨x, h1, hf⟩ := bind_some hf
    refine ⟨ι, ρ, m, x.1, x.2, rs, rm, h1, fun v ι1 H1 l1 rm1 ro1 bd1 => ?_⟩
    split at hf
    · rename_i e1; rw [e1] at ro1; cases ro1; cases hf
      exact ⟨_, rfl, fun bd => k _ ι1 H1 l1 rm1 (RV.bl _) bd⟩
    · cases hf
theorem se_if (h0 : PE X (.IfExp c a b pos) (tIf (tT X.K ca) (tE X.K fa) (tE X.K fb))) : SE X (.IfExp c a b pos) (eIf ca fa fb) :=
  pe_imp h0 fun σ H Q ⟨ι, ρ, m, z, m', rs, rm, hf, k⟩ => by
    obtain ⟨x, h1, hf⟩ := bind_some hf
    refine ⟨ι, ρ, m, x.1, x.2, rs, rm, h1, fun ι1 H1 l1 rm1 bd1 => ?_⟩
    split at hf
    · rename_i e1; rw [e1, if_pos rfl]
      exact ⟨ι1, ρ, x.2, z, m', rs.mono l1, rm1, hf, fun w ι3 H3 l3 rm3 ro3 bd3 _ => k w ι3 H3 (l1.tr rm1 l3) rm3 (ro3.from l1 rm1) bd3⟩
    · rename_i e1; rw [e1, if_neg Bool.false_ne_true]
      exact ⟨ι1, ρ, x.2, z, m', rs.mono l1, rm1, hf, fun w ι3 H3 l3 rm3 ro3 bd3 _ => k w ι3 H3 (l1.tr rm1 l3) rm3 (ro3.from l1 rm1) bd3⟩
/-! tests -/
theorem st_of (h0 : PT X e (tB (tE X.K fa))) : ST X e (bOf fa) := pt_imp h0 fun σ H Q ⟨ι, ρ, m, z, m', rs, rm, hf, k⟩ => by
  obtain ⟨x, h1, hf⟩ := bind_some hf
  refine ⟨ι, ρ, m, x.1, x.2, rs, rm, h1, fun v ι1 H1 l1 rm1 ro1 bd1 => ?_⟩
  split at hf
  · rename_i e1; rw [e1] at ro1; cases ro1; cases hf
    exact ⟨_, rfl, fun bd => k ι1 H1 l1 rm1 bd⟩
  · cases hf
theorem sw_and {rest : List Expr} (h0 : PW X (.BoolOp .And (a :: b :: rest) pos) (tAnd (tT X.K ca) (tT X.K cb))) : SW X (.BoolOp .And (a :: b :: rest) pos) (bAnd ca cb) := pw_imp h0 fun σ H Q ⟨ι, ρ, m, z, m', rs, rm, hf, k⟩ => by
  obtain ⟨x, h1, hf⟩ := bind_some hf
  refine ⟨ι, ρ, m, x.1, x.2, rs, rm, h1, fun ι1 H1 l1 rm1 bd1 => ?_⟩
  split at hf
  · rename_i e1; rw [e1, if_pos rfl]
    exact ⟨ι1, ρ, x.2, z, m', rs.mono l1, rm1, hf, fun ι3 H3 l3 rm3 bd3 _ => k ι3 H3 (l1.tr rm1 l3) rm3 bd3⟩
  · rename_i e1; cases hf; rw [e1, if_neg Bool.false_ne_true]
    exact fun bd => k ι1 H1 l1 rm1 bd
theorem sw_or {rest : List Expr} (h0 : PW X (.BoolOp .Or (a :: b :: rest) pos) (tOr (tT X.K ca) (tT X.K cb))) : SW X (.BoolOp .Or (a :: b :: rest) pos) (bOr ca cb) := pw_imp h0 fun σ H Q ⟨ι, ρ, m, z, m', rs, rm, hf, k⟩ => by
  obtain ⟨x, h1, hf⟩ := bind_some hf
  refine ⟨ι, ρ, m, x.1, x.2, rs, rm, h1, fun ι1 H1 l1 rm1 bd1 => ?_⟩
  split at hf
  · rename_i e1; rw [e1, if_neg Bool.false_ne_true]
    exact ⟨ι1, ρ, x.2, z, m', rs.mono l1, rm1, hf, fun ι3 H3 l3 rm3 bd3 _ => k ι3 H3 (l1.tr rm1 l3) rm3 bd3⟩
  · rename_i e1; cases hf; rw [e1, if_pos rfl]
    exact fun bd => k ι1 H1 l1 rm1 bd
theorem st_not (h0 : PT X e (tNot (tT X.K ca))) : ST X e (bNot ca) := pt_imp h0 fun σ H Q ⟨ι, ρ, m, z, m', rs, rm, hf, k⟩ => by
  obtain ⟨x, h1, hf⟩ := bind_some hf
  cases hf
  exact ⟨ι, ρ, m, x.1, x.2, rs, rm, h1, fun ι1 H1 l1 rm1 bd1 bd => k ι1 H1 l1 rm1 bd⟩
theorem sts_nil : PTs X [] (tT X.K bYes) := ⟨fun pins s σ H Q I h => by
  obtain ⟨ι, ρ, m, z, m', rs, rm, hf, k⟩ := h
  cases hf
  exact pts_nil.run pins s σ H Q I (k ι H (Le.refl _ _) rm (bnd_of I))⟩
theorem sts_one (h : ST X e ca) : PTs X [e] (tT X.K ca) := pts_one h
/-! arguments, displays, calls -/
theorem sa_nil : SA X [] aNil := pa_imp pa_nil fun σ H Q ⟨ι, ρ, m, z, m', rs, rm, hf, k⟩ => by
  cases hf
  exact fun bd => k [] ι H (Le.refl _ _) rm .nil bd
theorem sa_cons {es : List Expr} {fr : A} (h0 : PA X (e :: es) (tCons (tE X.K fa) (tA X.K fr))) : SA X (e :: es) (aCons fa fr) := pa_imp h0 fun σ H Q ⟨ι, ρ, m, z, m', rs, rm, hf, k⟩ => by
  obtain ⟨x, h1, hf⟩ := bind_some hf
  obtain ⟨y, h2, hf⟩ := bind_some hf
  cases hf
  refine ⟨ι, ρ, m, x.1, x.2, rs, rm, h1, fun v ι1 H1 l1 rm1 ro1 bd1 => ?_⟩
  obtain ⟨ι1', l1', rm1', rv1, rs1, _, _⟩ := ro1.val l1 rm1 (rs.mono l1)
  refine ⟨ι1', ρ, _, y.1, y.2, rs1, rm1', h2, fun vs ι2 H2 l2 rm2 rvs bd2 bd => ?_⟩
  exact k (v :: vs) ι2 H2 (l1'.tr rm1' l2) rm2 (.cons (rv1.mono l2) rvs) bd2
theorem se_tup {es : List Expr} {fr : A} {k1 : Nat} (h : SA X es fr) : SE X (.Tuple es k1 pos) (eTup fr) := pe_imp (pe_tupN h) fun σ H Q ⟨ι, ρ, m, z, m', rs, rm, hf, k⟩ => by
  obtain ⟨x, h1, hf⟩ := bind_some hf
  split at hf
  · rename_i hl
    cases hf
    refine ⟨ι, ρ, m, x.1, x.2, rs, rm, h1, fun vs ι1 H1 l1 rm1 rvs bd1 => ⟨by rw [← rvs.length]; exact hl, fun p o hp ho bd => ?_⟩⟩
    have l2 : Le ι1 H1 ι1 (upd H1 p (.frz o (.tup vs))) := ⟨⟨[], by simp, by simp⟩, fun a o h _ => by rw [upd_ne (ne_of_none h hp)]; exact h⟩
    refine k (.ref p) ι1 _ (l1.tr rm1 l2) ⟨rm1.nd, rm1.len, fun n b e => let ⟨a, e1, rb⟩ := rm1.ob n b e; ⟨a, e1, rb.mono l2 (upd_ne fun z => rb.isat (by rw [z]; exact hp))⟩⟩ (.tup (.inl ⟨o, upd_same, ho⟩) (rvs.mono l2)) bd
  · cases hf
theorem se_lst {es : List Expr} {fr : A} (h : SA X es fr) : SE X (.List es pos) (eLst fr) := pe_imp (pe_lst h) fun σ H Q ⟨ι, ρ, m, z, m', rs, rm, hf, k⟩ => by
  obtain ⟨x, h1, hf⟩ := bind_some hf
  split at hf
  · rename_i hl
    cases hf
    refine ⟨ι, ρ, m, x.1, x.2, rs, rm, h1, fun vs ι1 H1 l1 rm1 rvs bd1 => ⟨by rw [← rvs.length]; exact hl, fun p hp bd => ?_⟩⟩
    have l2 : Le ι1 H1 ι1 (upd H1 p (.lst vs)) := ⟨⟨[], by simp, by simp⟩, fun a o h _ => by rw [upd_ne (ne_of_none h hp)]; exact h⟩
    refine k (.ref p) ι1 _ (l1.tr rm1 l2) ⟨rm1.nd, rm1.len, fun n b e => let ⟨a, e1, rb⟩ := rm1.ob n b e; ⟨a, e1, rb.mono l2 (upd_ne fun z => rb.isat (by rw [z]; exact hp))⟩⟩ ⟨p, rfl, l1.back rm1 hp, fun hi => rm1.there p hi hp, vs, upd_same, rvs.mono l2⟩ bd
  · cases hf
end
/-! ### a def's promise -/
def spF (K : PySem.W.Frag) (n : Nat) (F : Fn) : Sp := fun vs H Q _ => ∃ ι ds m r m', ds.length = n ∧ RVs K ι H ds vs ∧ RM K ι H m ∧ F ds m = some (r, m') ∧ ∀ v ι' H', Le ι H ι' H' → RM K ι' H' m' → RO K H ι' H' r v → Q v H'
section
variable {X : Cx} {e : Expr} {es : List Expr} {pos p : Pos} {fr : A} {x : Str} {k n : Nat} {f : Addr} {fd : FuncData} {ps : List Str} {F : Fn}
theorem tCall_of {K : PySem.W.Frag} {ι : List Addr} {ρ : Env} {σ : St} {H : Hp} {m m' : Mem} {z : Out} {Q : VK} (hF : ∀ ds m r, F ds m = some r → ds.length = n) (rs : RS K ι H σ ρ) (rm : RM K ι H m) (hf : eCall F fr ρ m = some (z, m'))
    (k : ∀ v ι' H', Le ι H ι' H' → RM K ι' H' m' → RO K H ι' H' z v → Q v H') : tCall (spF K n F) [] E0 (tA K fr) σ H Q := by
  obtain ⟨x, h1, hf⟩ := bind_some hf
  refine ⟨ι, ρ, m, x.1, x.2, rs, rm, h1, fun vs ι1 H1 l1 rm1 rvs bd1 => ?_⟩
  show spF K n F (vs ++ []) H1 Q E0
  rw [List.append_nil]
  exact ⟨ι1, x.1, x.2, z, m', hF _ _ _ hf, rvs, rm1, hf, fun v ι2 H2 l2 rm2 ro2 => k v ι2 H2 (l1.tr rm1 l2) rm2 (ro2.from l1 rm1)⟩
theorem se_call (h0 : PE X e (tCall (spF X.K n F) [] E0 (tA X.K fr))) (hF : ∀ ds m r, F ds m = some r → ds.length = n) : SE X e (eCall F fr) :=
  pe_imp h0 fun σ H Q ⟨ι, ρ, m, z, m', rs, rm, hf, k⟩ => tCall_of hF rs rm hf k
end
end Q
namespace Q
open PySem L2

/-! ### targets -/
inductive Tg where
  | nm (i : Nat) | tp (is : List Nat)
@[simp] def setAll : List Nat → List D → Env → Option Env
  | [], [], ρ => some ρ
  | i :: is, d :: ds, ρ => setAll is ds (ρ.set i (some d))
  | _, _, _ => none
@[simp] def Tg.put : Tg → D → Env → Option Env
  | .nm i, d, ρ => some (ρ.set i (some d))
  | .tp is, .tup ds, ρ => setAll is ds ρ
  | .tp is, .par ds, ρ => setAll is ds ρ
  | _, _, _ => none
/-- a target that is stored to, any way: data, environment, memory -/
abbrev G := D → Env → Mem → Option (Env × Mem)
def tG (K : PySem.W.Frag) (g : G) : TG := fun v σ H Q => ∃ ι ρ m d ρ' m', RS K ι H σ ρ ∧ RM K ι H m ∧ RV K ι H d v ∧ g d ρ m = some (ρ', m') ∧ ∀ σ' ι' H', Le ι H ι' H' → RS K ι' H' σ' ρ' → RM K ι' H' m' → Q σ' H'
abbrev SG (X : Cx) (e : Expr) (g : G) : Prop := PG X e (tG X.K g)
@[simp] def gT (t : Tg) (d : D) (ρ : Env) (m : Mem) : Option (Env × Mem) := (t.put d ρ).map fun ρ' => (ρ', m)
theorem RS.put {K : PySem.W.Frag} {ι : List Addr} {H : Hp} {σ : St} {ρ : Env} {d : D} {v : V} {i : Nat} (h : RS K ι H σ ρ) (r : RV K ι H d v) : RS K ι H (σ.set i (some v)) (ρ.set i (some d)) := by
  refine ⟨by simp [h.1], fun j d' e => ?_⟩
  by_cases hj : i = j
  · subst hj
    by_cases hl : i < ρ.length
    · rw [List.getElem?_set_self hl] at e
      cases e
      exact ⟨v, by rw [List.getElem?_set_self (by rw [h.1]; exact hl)], r⟩
    · rw [List.getElem?_eq_none (by simpa using hl)] at e; cases e
  · rw [List.getElem?_set_ne hj] at e ⊢
    exact h.2 j d' e
section
variable {X : Cx} {e : Expr}
theorem sg_name {i : Nat} (h : PG X e (gName i)) : SG X e (gT (.nm i)) := pg_imp h fun v σ H Q ⟨ι, ρ, m, d, ρ', m', rs, rm, rv, hg, k⟩ => by
  cases hg
  exact k _ ι H (Le.refl _ _) (rs.put rv) rm
/-- several names -/
def gNames : List Nat → TGs
  | [] => gNil
  | i :: is => gCons (gName i) (gNames is)
theorem gNames_of {K : PySem.W.Frag} {ι : List Addr} {H : Hp} {Q : St → Hp → Prop} : ∀ {is : List Nat} {ds : List D} {vs : List V} {σ : St} {ρ ρ' : Env}, RS K ι H σ ρ → RVs K ι H ds vs → setAll is ds ρ = some ρ' → (∀ σ', RS K ι H σ' ρ' → Q σ' H) → gNames is vs σ H Q
  | [], [], _, σ, ρ, _, rs, .nil, e, k => by cases e; exact ⟨rfl, k σ rs⟩
  | i :: is, d :: ds, _, σ, ρ, _, rs, .cons r t, e, k => ⟨_, _, rfl, gNames_of (is := is) (rs.put r) t e k⟩
  | [], _ :: _, _, _, _, _, _, _, e, _ => by cases e
  | _ :: _, [], _, _, _, _, _, _, e, _ => by cases e
theorem setAll_len : ∀ {is : List Nat} {ds : List D} {ρ ρ' : Env}, setAll is ds ρ = some ρ' → ds.length = is.length
  | [], [], _, _, _ => rfl
  | i :: is, d :: ds, _, _, e => by simp [setAll_len (is := is) (ds := ds) e]
  | [], _ :: _, _, _, e => by cases e
  | _ :: _, [], _, _, e => by cases e
theorem sg_tup {is : List Nat} {n : Nat} (h : PG X e (gTup X.K n (gNames is))) (hn : is.length = n) : SG X e (gT (.tp is)) := pg_imp h fun v σ H Q ⟨ι, ρ, m, d, ρ', m', rs, rm, rv, hg, k⟩ => by
  unfold gT Tg.put at hg
  cases rv with
  | tup hs rvs =>
    obtain ⟨ρ1, e1, e2⟩ := Option.map_eq_some_iff.mp hg
    cases e2
    exact ⟨_, _, rfl, hs.sq, by rw [← rvs.length, setAll_len e1, hn], gNames_of rs rvs e1 fun σ' rs' => k σ' ι H (Le.refl _ _) rs' rm⟩
  | par hs rvs =>
    obtain ⟨ρ1, e1, e2⟩ := Option.map_eq_some_iff.mp hg
    cases e2
    exact ⟨_, _, rfl, .inl (.inl hs), by rw [← rvs.length, setAll_len e1, hn], gNames_of rs rvs e1 fun σ' rs' => k σ' ι H (Le.refl _ _) rs' rm⟩
  | _ => cases hg
end

/-! ### statements -/
@[simp] def sNil (ρ : Env) (m : Mem) : Option R := some (.nx ρ m)
@[simp] def sSeq (a b : S) (ρ : Env) (m : Mem) : Option R := (a ρ m).bind fun r => match r with | .nx ρ' m' => b ρ' m' | r => some r
@[simp] def sPut (e : E) (g : G) (ρ : Env) (m : Mem) : Option R := (e ρ m).bind fun x => (g (val x.1 x.2).1 ρ (val x.1 x.2).2).bind fun y => some (.nx y.1 y.2)
@[simp] def sSet (i : Nat) (e : E) (ρ : Env) (m : Mem) : Option R := (e ρ m).bind fun x => some (.nx (ρ.set i (some (val x.1 x.2).1)) (val x.1 x.2).2)
@[simp] def sPar (is : List Nat) (a : A) (ρ : Env) (m : Mem) : Option R := (a ρ m).bind fun x => (setAll is x.1 ρ).bind fun ρ' => some (.nx ρ' x.2)
@[simp] def sDo (e : E) (ρ : Env) (m : Mem) : Option R := (e ρ m).bind fun x => some (.nx ρ x.2)
@[simp] def sRet (e : E) (ρ : Env) (m : Mem) : Option R := (e ρ m).bind fun x => some (.rt x.1 x.2)
@[simp] def sRetN (_ : Env) (m : Mem) : Option R := some (.rt (.v .non) m)
@[simp] def sIf (c : B) (a b : S) (ρ : Env) (m : Mem) : Option R := (c ρ m).bind fun x => match x.1 with | true => a ρ x.2 | false => b ρ x.2
@[simp] def sBrk (ρ : Env) (m : Mem) : Option R := some (.bk ρ m)
@[simp] def sCnt (ρ : Env) (m : Mem) : Option R := some (.ct ρ m)
@[simp] def sAug (i : Nat) (f : F2) (e : E) (ρ : Env) (m : Mem) : Option R := match ρ[i]? with
  | some (some d) => (e ρ m).bind fun x => (f (.v d) x.1 x.2).bind fun z => some (.nx (ρ.set i (some (val z.1 z.2).1)) (val z.1 z.2).2)
  | _ => none
/-- a wish behind a loop's turn -/
def whL (c : B) (body : S) : Nat → Env → Mem → Option R
  | 0, _, _ => none
  | n + 1, ρ, m => (c ρ m).bind fun x => match x.1 with
    | false => some (.nx ρ x.2)
    | true => (body ρ x.2).bind fun r => match r with
      | .nx ρ' m' => whL c body n ρ' m'
      | .ct ρ' m' => whL c body n ρ' m'
      | .bk ρ' m' => some (.nx ρ' m')
      | .rt r m' => some (.rt r m')
def fuel : Nat := 1000000000
def sWhile (c : B) (body : S) : S := fun ρ m => whL c body fuel ρ m

/-- what is walked: the items; lists that stand in the memory meanwhile -/
structure Src where
  items : List D
  live : List (Nat × Ob) := []
def chk (lv : List (Nat × Ob)) (m : Mem) : Prop := ∀ p ∈ lv, m[p.1]? = some p.2
abbrev I := Env → Mem → Option (Src × Mem)
open Classical in
noncomputable def forL (g : G) (body : S) (lv : List (Nat × Ob)) : List D → Env → Mem → Option R
  | [], ρ, m => if chk lv m then some (.nx ρ m) else none
  | x :: xs, ρ, m => if chk lv m then (g x ρ m).bind fun y => (body y.1 y.2).bind fun r => match r with
      | .nx ρ' m' => forL g body lv xs ρ' m'
      | .ct ρ' m' => forL g body lv xs ρ' m'
      | .bk ρ' m' => some (.nx ρ' m')
      | .rt r m' => some (.rt r m')
    else none
noncomputable def sFor (it : I) (g : G) (body : S) : S := fun ρ m => (it ρ m).bind fun s => forL g body s.1.live s.1.items ρ s.2
/-- the layer's walk J gives the items, from (ι, H) on, as long as the lists stand -/
def Walks (K : PySem.W.Frag) (J : It) (s : Src) (ι : List Addr) (H : Hp) : Prop := ∀ ι2 H2 m2 (i : Nat), Le ι H ι2 H2 → RM K ι2 H2 m2 → chk s.live m2 →
  (s.items.length ≤ i → J.stop i H2) ∧ ∀ d, s.items[i]? = some d → J.go i H2 ∧ ∀ x H3, J.yld i H2 x H3 → Le ι2 H2 ι2 H3 ∧ RM K ι2 H3 m2 ∧ RV K ι2 H3 d x
def tI (K : PySem.W.Frag) (it : I) : TI := fun σ H R => ∃ ι ρ m s m', RS K ι H σ ρ ∧ RM K ι H m ∧ it ρ m = some (s, m') ∧ ∀ J ι' H', Le ι H ι' H' → RM K ι' H' m' → Walks K J s ι' H' → Bnd K H' → s.items.length ≤ sizeLine → R J H'
abbrev SI (X : Cx) (tg e : Expr) (it : I) : Prop := PI X tg e (tI X.K it)
section
variable {X : Cx} {e a b : Expr} {pos p : Pos} {fa : E} {ca : B} {st : Stmt} {sts : List Stmt} {s1 s2 : S} {g : G}
theorem ss_nil : SSs X [] sNil := pss_imp pss_nil fun D σ H ⟨ι, ρ, m, r, rs, rm, hf, k⟩ => by
  cases hf
  exact k σ ι H (Le.refl _ _) rs rm
theorem ss_one (h : SS X st s1) : SSs X [st] s1 := pss_one h
theorem ss_cons (h1 : SS X st s1) (h2 : SSs X sts s2) : SSs X (st :: sts) (sSeq s1 s2) := pss_imp (pss_cons h1 h2) fun D σ H ⟨ι, ρ, m, r, rs, rm, hf, k⟩ => by
  obtain ⟨x, h3, hf⟩ := bind_some hf
  refine ⟨ι, ρ, m, x, rs, rm, h3, ?_⟩
  cases x with
  | nx ρ' m' => exact fun σ1 ι1 H1 l1 rs1 rm1 => ⟨ι1, ρ', m', r, rs1, rm1, hf, k.from l1 rm1⟩
  | rt v m' => cases hf; exact k
  | bk ρ' m' => cases hf; exact k
  | ct ρ' m' => cases hf; exact k
theorem ss_pass : SS X (.Pass pos) sNil := ps_imp ps_pass fun D σ H ⟨ι, ρ, m, r, rs, rm, hf, k⟩ => by
  cases hf
  exact k σ ι H (Le.refl _ _) rs rm
theorem ss_do (h : SE X e fa) (h0 : PS X (.Expr e pos) (tDrop (tE X.K fa))) : SS X (.Expr e pos) (sDo fa) := ps_imp h0 fun D σ H ⟨ι, ρ, m, r, rs, rm, hf, k⟩ => by
  obtain ⟨x, h3, hf⟩ := bind_some hf
  cases hf
  exact ⟨ι, ρ, m, x.1, x.2, rs, rm, h3, fun v ι1 H1 l1 rm1 ro1 bd1 => k σ ι1 H1 l1 (rs.mono l1) rm1⟩
theorem ss_ret (h : SE X e fa) : SS X (.Return (some e) pos) (sRet fa) := ps_imp (ps_ret h) fun D σ H ⟨ι, ρ, m, r, rs, rm, hf, k⟩ => by
  obtain ⟨x, h3, hf⟩ := bind_some hf
  cases hf
  exact ⟨ι, ρ, m, x.1, x.2, rs, rm, h3, fun v ι1 H1 l1 rm1 ro1 bd1 => k v ι1 H1 l1 rm1 ro1⟩
theorem ss_set {i : Nat} (h0 : PS X st (tAsg (tE X.K fa) (gName i))) : SS X st (sSet i fa) := ps_imp h0 fun D σ H ⟨ι, ρ, m, r, rs, rm, hf, k⟩ => by
  obtain ⟨x, h3, hf⟩ := bind_some hf
  cases hf
  refine ⟨ι, ρ, m, x.1, x.2, rs, rm, h3, fun v ι1 H1 l1 rm1 ro1 bd1 => ?_⟩
  obtain ⟨ι2, l2, rm2, rv, rs2, _, _⟩ := ro1.val l1 rm1 (rs.mono l1)
  exact k _ ι2 H1 l2 (rs2.put rv) rm2
theorem ss_put (h0 : PS X st (tAsg (tE X.K fa) (tG X.K g))) : SS X st (sPut fa g) := ps_imp h0 fun D σ H ⟨ι, ρ, m, r, rs, rm, hf, k⟩ => by
  obtain ⟨x, h3, hf⟩ := bind_some hf
  obtain ⟨y, h4, hf⟩ := bind_some hf
  cases hf
  refine ⟨ι, ρ, m, x.1, x.2, rs, rm, h3, fun v ι1 H1 l1 rm1 ro1 bd1 => ?_⟩
  obtain ⟨ι2, l2, rm2, rv, rs2, _, _⟩ := ro1.val l1 rm1 (rs.mono l1)
  exact ⟨ι2, ρ, _, _, y.1, y.2, rs2, rm2, rv, h4, fun σ' ι3 H3 l3 rs3 rm3 => k σ' ι3 H3 (l2.tr rm2 l3) rs3 rm3⟩
theorem ss_par {i j : Nat} {fr : A} (h0 : PS X st (tPar i j (tA X.K fr))) : SS X st (sPar [i, j] fr) := ps_imp h0 fun D σ H ⟨ι, ρ, m, r, rs, rm, hf, k⟩ => by
  obtain ⟨x, h3, hf⟩ := bind_some hf
  obtain ⟨ρ', h4, hf⟩ := bind_some hf
  cases hf
  refine ⟨ι, ρ, m, x.1, x.2, rs, rm, h3, fun vs ι1 H1 l1 rm1 rvs bd1 => ?_⟩
  match h5 : x.1, rvs, h4 with
  | [d1, d2], .cons r1 (.cons r2 .nil), h4 =>
    cases h4
    exact ⟨_, _, rfl, k _ ι1 H1 l1 (((rs.mono l1).put r1).put r2) rm1⟩
theorem ss_par3 {i j l : Nat} {fr : A} (h0 : PS X st (tPar3 i j l (tA X.K fr))) : SS X st (sPar [i, j, l] fr) := ps_imp h0 fun D σ H ⟨ι, ρ, m, r, rs, rm, hf, k⟩ => by
  obtain ⟨x, h3, hf⟩ := bind_some hf
  obtain ⟨ρ', h4, hf⟩ := bind_some hf
  cases hf
  refine ⟨ι, ρ, m, x.1, x.2, rs, rm, h3, fun vs ι1 H1 l1 rm1 rvs bd1 => ?_⟩
  match h5 : x.1, rvs, h4 with
  | [d1, d2, d3], .cons r1 (.cons r2 (.cons r3 .nil)), h4 =>
    cases h4
    exact ⟨_, _, _, rfl, k _ ι1 H1 l1 ((((rs.mono l1).put r1).put r2).put r3) rm1⟩
theorem ss_if {c : Expr} {pa pb : List Stmt} (hc : ST X c ca) (h1 : SSs X pa s1) (h2 : SSs X pb s2) : SS X (.If c pa pb pos) (sIf ca s1 s2) := ps_imp (ps_if hc h1 h2) fun D σ H ⟨ι, ρ, m, r, rs, rm, hf, k⟩ => by
  obtain ⟨x, h3, hf⟩ := bind_some hf
  refine ⟨ι, ρ, m, x.1, x.2, rs, rm, h3, fun ι1 H1 l1 rm1 bd1 => ?_⟩
  split at hf
  · rename_i e1; rw [e1, if_pos rfl]
    exact ⟨ι1, ρ, x.2, r, rs.mono l1, rm1, hf, k.from l1 rm1⟩
  · rename_i e1; rw [e1, if_neg Bool.false_ne_true]
    exact ⟨ι1, ρ, x.2, r, rs.mono l1, rm1, hf, k.from l1 rm1⟩
theorem ss_brk : SS X (.Break pos) sBrk := ps_imp ps_break fun D σ H ⟨ι, ρ, m, r, rs, rm, hf, k⟩ => by
  cases hf
  exact k σ ι H (Le.refl _ _) rs rm
theorem ss_cnt : SS X (.Continue pos) sCnt := ps_imp ps_continue fun D σ H ⟨ι, ρ, m, r, rs, rm, hf, k⟩ => by
  cases hf
  exact k σ ι H (Le.refl _ _) rs rm
theorem ss_aug {i : Nat} {ti : TIp} {f : F2} (h0 : PS X st (tAug i (tE X.K fa) ti)) (hr : R2S X.K ti f) : SS X st (sAug i f fa) := ps_imp h0 fun D σ H ⟨ι, ρ, m, r, rs, rm, hf, k⟩ => by
  unfold sAug at hf
  split at hf
  · rename_i d hd
    obtain ⟨x, h3, hf⟩ := bind_some hf
    obtain ⟨z, h4, hf⟩ := bind_some hf
    cases hf
    obtain ⟨v, e1, e2⟩ := rs.2 i d hd
    refine ⟨v, e1, ι, ρ, m, x.1, x.2, rs, rm, h3, fun u ι1 H1 l1 rm1 ro1 bd1 => ?_⟩
    refine hr ι1 H1 H x.2 (.v d) x.1 z.1 v u z.2 _ rm1 bd1 (e2.mono l1) ro1 h4 fun w ι2 H2 l2 rm2 ro2 => ?_
    obtain ⟨ι3, l3, rm3, rv, rs3, _, _⟩ := (ro2.from l1 rm1).val (l1.tr rm1 l2) rm2 ((rs.mono l1).mono l2)
    exact k _ ι3 H2 l3 (rs3.put rv) rm3
  · cases hf
theorem ss_while (h0 : PS X st (tWhile (tT X.K ca) (tS X.K s1))) : SS X st (sWhile ca s1) := ps_imp h0 fun D σ H ⟨ι, ρ, m, r, rs, rm, hf, k⟩ => by
  refine ⟨fun n σ1 H1 => ∃ ι1 ρ1 m1, Le ι H ι1 H1 ∧ RS X.K ι1 H1 σ1 ρ1 ∧ RM X.K ι1 H1 m1 ∧ whL ca s1 n ρ1 m1 = some r, ⟨fuel, ι, ρ, m, Le.refl _ _, rs, rm, hf⟩, ?_⟩
  rintro n σ1 H1 ⟨ι1, ρ1, m1, l1, rs1, rm1, hw⟩
  cases n with
  | zero => cases hw
  | succ n =>
    obtain ⟨x, h3, hw⟩ := bind_some hw
    refine ⟨ι1, ρ1, m1, x.1, x.2, rs1, rm1, h3, fun ι2 H2 l2 rm2 bd2 => ?_⟩
    have l12 := l1.tr rm1 l2
    split at hw
    · rename_i e1; rw [e1]
      cases hw
      exact iteF (k σ1 ι2 H2 l12 (rs1.mono l2) rm2)
    · rename_i e1; rw [e1]
      refine iteT ?_
      obtain ⟨y, h4, hw⟩ := bind_some hw
      refine ⟨fun σ' H' => ∃ ι' ρ' m', Le ι H ι' H' ∧ RS X.K ι' H' σ' ρ' ∧ RM X.K ι' H' m' ∧ whL ca s1 n ρ' m' = some r, fun σ' H' h => ⟨n, Nat.lt_succ_self n, h⟩, ι2, ρ1, x.2, y, rs1.mono l2, rm2, h4, ?_⟩
      cases y with
      | nx ρ' m' => exact fun σ' ι' H' l' rs' rm' => ⟨ι', ρ', m', l12.tr rm2 l', rs', rm', hw⟩
      | ct ρ' m' => exact fun σ' ι' H' l' rs' rm' => ⟨ι', ρ', m', l12.tr rm2 l', rs', rm', hw⟩
      | bk ρ' m' => cases hw; exact fun σ' ι' H' l' rs' rm' => k σ' ι' H' (l12.tr rm2 l') rs' rm'
      | rt r' m' => cases hw; exact fun v ι' H' l' rm' ro' => k v ι' H' (l12.tr rm2 l') rm' (ro'.from l12 rm2)
theorem ss_for {it : I} (h0 : PS X st (tFor (tI X.K it) (tG X.K g) (tS X.K s1))) : SS X st (sFor it g s1) := ps_imp h0 fun D σ H ⟨ι, ρ, m, r, rs, rm, hf, k⟩ => by
  obtain ⟨s, h3, hf⟩ := bind_some hf
  refine ⟨ι, ρ, m, s.1, s.2, rs, rm, h3, fun J ι0 H0 l0 rm0 wk bd hsz => ?_⟩
  refine ⟨fun i n σ1 H1 => ∃ ι1 ρ1 m1, n = s.1.items.length - i ∧ Le ι0 H0 ι1 H1 ∧ RS X.K ι1 H1 σ1 ρ1 ∧ RM X.K ι1 H1 m1 ∧ forL g s1 s.1.live (s.1.items.drop i) ρ1 m1 = some r, ⟨s.1.items.length, ι0, ρ, s.2, by simp, Le.refl _ _, rs.mono l0, rm0, by simpa using hf⟩, ?_⟩
  rintro i n σ1 H1 ⟨ι1, ρ1, m1, en, l1, rs1, rm1, hw⟩
  by_cases hi : i < s.1.items.length
  · rw [List.drop_eq_getElem_cons hi] at hw
    unfold forL at hw
    split at hw
    · rename_i hc
      obtain ⟨y, h4, hw⟩ := bind_some hw
      obtain ⟨z, h5, hw⟩ := bind_some hw
      obtain ⟨_, w2⟩ := wk ι1 H1 m1 i l1 rm1 hc
      obtain ⟨go, w3⟩ := w2 _ (List.getElem?_eq_getElem hi)
      refine .inr ⟨go, fun σ' H' => ∃ ι' ρ' m', Le ι0 H0 ι' H' ∧ RS X.K ι' H' σ' ρ' ∧ RM X.K ι' H' m' ∧ forL g s1 s.1.live (s.1.items.drop (i + 1)) ρ' m' = some r, fun σ' H' ⟨ι', ρ', m', a, b, c, d⟩ => ⟨s.1.items.length - (i + 1), by omega, ι', ρ', m', rfl, a, b, c, d⟩, fun x H3 hy => ?_⟩
      obtain ⟨l3, rm3, rv3⟩ := w3 x H3 hy
      refine ⟨ι1, ρ1, m1, _, y.1, y.2, rs1.mono l3, rm3, rv3, h4, fun σ' ι4 H4 l4 rs4 rm4 => ?_⟩
      have l14 : Le ι0 H0 ι4 H4 := l1.tr rm1 (l3.tr rm3 l4)
      refine ⟨ι4, y.1, y.2, z, rs4, rm4, h5, ?_⟩
      cases z with
      | nx ρ' m' => exact fun σ' ι' H' l' rs' rm' => ⟨ι', ρ', m', l14.tr rm4 l', rs', rm', hw⟩
      | ct ρ' m' => exact fun σ' ι' H' l' rs' rm' => ⟨ι', ρ', m', l14.tr rm4 l', rs', rm', hw⟩
      | bk ρ' m' => cases hw; exact fun σ' ι' H' l' rs' rm' => k σ' ι' H' (l0.tr rm0 (l14.tr rm4 l')) rs' rm'
      | rt r' m' => cases hw; exact fun v ι' H' l' rm' ro' => k v ι' H' (l0.tr rm0 (l14.tr rm4 l')) rm' (ro'.from (l0.tr rm0 l14) rm4)
    · cases hw
  · rw [List.drop_eq_nil_of_le (by omega)] at hw
    unfold forL at hw
    split at hw
    · rename_i hc
      cases hw
      obtain ⟨w1, _⟩ := wk ι1 H1 m1 i l1 rm1 hc
      exact .inl ⟨w1 (by omega), k σ1 ι1 H1 (l0.tr rm0 l1) rs1 rm1⟩
    · cases hw
end
end Q
namespace Q
open PySem L2

/-! ### comprehensions -/
def wipeE (ρ : Env) : List Nat → Env
  | [] => ρ
  | v :: vs => (wipeE ρ vs).set v none
theorem RS.wipe {K : PySem.W.Frag} {ι : List Addr} {H : Hp} {σ : St} {ρ : Env} (h : RS K ι H σ ρ) : ∀ vs : List Nat, RS K ι H (wipe σ vs) (wipeE ρ vs)
  | [] => h
  | v :: vs => by
    have ih := RS.wipe h vs
    refine ⟨by simp [L2.wipe, wipeE, ih.1], fun j d e => ?_⟩
    unfold wipeE at e
    unfold L2.wipe
    by_cases hj : v = j
    · subst hj
      by_cases hl : v < (wipeE ρ vs).length
      · rw [List.getElem?_set_self hl] at e; cases e
      · rw [List.getElem?_eq_none (by simpa using hl)] at e; cases e
    · rw [List.getElem?_set_ne hj] at e ⊢
      exact ih.2 j d e
def Tg.ixs : Tg → List Nat
  | .nm i => [i]
  | .tp is => is
theorem wipe_comm (σ : St) (i : Nat) (x : Option V) : ∀ vs : List Nat, i ∈ vs → L2.wipe (σ.set i x) vs = L2.wipe σ vs
  | [], h => by cases h
  | v :: vs, h => by
    unfold L2.wipe
    by_cases hv : i ∈ vs
    · rw [wipe_comm σ i x vs hv]
    · have e : i = v := by
        rcases List.mem_cons.mp h with h | h
        · exact h
        · exact absurd h hv
      subst e
      have q : ∀ (us : List Nat), i ∉ us → L2.wipe (σ.set i x) us = (L2.wipe σ us).set i x := by
        intro us
        induction us with
        | nil => intro _; rfl
        | cons u us ih =>
          intro hu
          unfold L2.wipe
          rw [ih fun z => hu (List.mem_cons_of_mem _ z), List.set_comm]
          intro z; subst z; exact hu List.mem_cons_self
      rw [q vs hv, List.set_set]
theorem wipe_wipe (σ : St) : ∀ vs : List Nat, L2.wipe (L2.wipe σ vs) vs = L2.wipe σ vs := fun vs => by
  have q : ∀ (us ws : List Nat), (∀ u ∈ us, u ∈ ws) → L2.wipe (L2.wipe σ us) ws = L2.wipe σ ws := by
    intro us
    induction us with
    | nil => intro ws _; rfl
    | cons u us ih =>
      intro ws h
      show L2.wipe ((L2.wipe σ us).set u none) ws = _
      rw [wipe_comm _ _ _ ws (h u List.mem_cons_self), ih ws fun v hv => h v (List.mem_cons_of_mem _ hv)]
  exact q vs vs fun _ h => h
/-- the layer's reading of a target of names -/
def tgL (K : PySem.W.Frag) : Tg → TG
  | .nm i => gName i
  | .tp is => gTup K is.length (gNames is)
theorem gNames_wipe {K : PySem.W.Frag} {ι : List Addr} {H : Hp} {Q : St → Hp → Prop} {ws : List Nat} : ∀ {is : List Nat} {ds : List D} {vs : List V} {σ : St} {ρ ρ' : Env}, (∀ i ∈ is, i ∈ ws) → RS K ι H σ ρ → RVs K ι H ds vs → setAll is ds ρ = some ρ' →
    (∀ σ', RS K ι H σ' ρ' → L2.wipe σ' ws = L2.wipe σ ws → Q σ' H) → gNames is vs σ H Q
  | [], [], _, σ, ρ, _, _, rs, .nil, e, k => by cases e; exact ⟨rfl, k σ rs rfl⟩
  | i :: is, d :: ds, _, σ, ρ, _, hw, rs, .cons r t, e, k => ⟨_, _, rfl, gNames_wipe (is := is) (fun j hj => hw j (List.mem_cons_of_mem _ hj)) (rs.put r) t e fun σ' rs' e' => k σ' rs' (by rw [e', wipe_comm _ _ _ _ (hw i List.mem_cons_self)])⟩
  | [], _ :: _, _, _, _, _, _, _, _, e, _ => by cases e
  | _ :: _, [], _, _, _, _, _, _, _, e, _ => by cases e
theorem tgL_of {K : PySem.W.Frag} {ι : List Addr} {H : Hp} {Q : St → Hp → Prop} {ws : List Nat} {t : Tg} {d : D} {v : V} {σ : St} {ρ ρ' : Env} (hw : ∀ i ∈ t.ixs, i ∈ ws) (rs : RS K ι H σ ρ) (rv : RV K ι H d v) (e : t.put d ρ = some ρ')
    (k : ∀ σ', RS K ι H σ' ρ' → L2.wipe σ' ws = L2.wipe σ ws → Q σ' H) : tgL K t v σ H Q := by
  cases t with
  | nm i =>
    cases e
    exact k _ (rs.put rv) (wipe_comm _ _ _ _ (hw i (by simp [Tg.ixs])))
  | tp is =>
    cases rv with
    | par hs rvs => exact ⟨_, _, rfl, .inl (.inl hs), by rw [← rvs.length, setAll_len e], gNames_wipe hw rs rvs e k⟩
    | tup hs rvs => exact ⟨_, _, rfl, hs.sq, by rw [← rvs.length, setAll_len e], gNames_wipe hw rs rvs e k⟩
    | _ => cases e
open Classical in
noncomputable def cmpL (t : Tg) (c : B) (f : E) (lv : List (Nat × Ob)) (ρ : Env) : List D → Mem → Option (List D × Mem)
  | [], m => if chk lv m then some ([], m) else none
  | x :: xs, m => if chk lv m then (t.put x ρ).bind fun ρ' => (c ρ' m).bind fun b => match b.1 with
      | true => (f ρ' b.2).bind fun y => (cmpL t c f lv ρ xs (val y.1 y.2).2).bind fun r => some ((val y.1 y.2).1 :: r.1, r.2)
      | false => cmpL t c f lv ρ xs b.2
    else none
noncomputable def eComp (it : I) (vs : List Nat) (t : Tg) (c : B) (f : E) : E := fun ρ m => (it ρ m).bind fun s => (cmpL t c f s.1.live (wipeE ρ vs) s.1.items s.2).bind fun r => some (.o (.lst r.1), r.2)
section
variable {X : Cx} {e : Expr} {fa : E} {ca : B}
theorem cmp_core {K : PySem.W.Frag} {it : I} {vs : List Nat} {t : Tg} {σ : St} {H : Hp} {Q : VK} {ι : List Addr} {ρ : Env} {m m' : Mem} {r : Out} (hw : ∀ i ∈ t.ixs, i ∈ vs) (rs : RS K ι H σ ρ) (rm : RM K ι H m) (hf : eComp it vs t ca fa ρ m = some (r, m'))
    (k : ∀ v ι' H', Le ι H ι' H' → RM K ι' H' m' → RO K H ι' H' r v → Q v H') : tLc (tI K it) (tgL K t) (tT K ca) (tE K fa) vs σ H Q := by
  obtain ⟨s, h3, hf⟩ := bind_some hf
  obtain ⟨rr, h4, hf⟩ := bind_some hf
  cases hf
  refine ⟨ι, ρ, m, s.1, s.2, rs, rm, h3, fun J ι0 H0 l0 rm0 wk bd hsz => ?_⟩
  intro L hL
  have hLi : L ∉ ι0 := fun z => rm0.there L z hL
  -- W: behind i turns the new list holds acc, and the rest of the turns gives rest
  refine ⟨fun i n H1 => ∃ ι1 m1 acc vacc rest, n = s.1.items.length - i ∧ i ≤ s.1.items.length ∧ Le ι0 H0 ι1 H1 ∧ RM K ι1 H1 m1 ∧ L ∉ ι1 ∧ H1 L = some (.lst vacc) ∧ RVs K ι1 H1 acc vacc ∧ acc.length ≤ i ∧
    cmpL t ca fa s.1.live (wipeE ρ vs) (s.1.items.drop i) m1 = some rest ∧ rr = (acc ++ rest.1, rest.2), ⟨s.1.items.length, ι0, s.2, [], [], rr, by simp, Nat.zero_le _, ?_, ?_, hLi, upd_same, .nil, Nat.le_refl _, by simpa using h4, by simp⟩, ?_⟩
  · exact ⟨⟨[], by simp, by simp⟩, fun a o h _ => by rw [upd_ne (ne_of_none h hL)]; exact h⟩
  · refine ⟨rm0.nd, rm0.len, fun n b e => let ⟨a, e1, rb⟩ := rm0.ob n b e; ⟨a, e1, rb.mono ⟨⟨[], by simp, by simp⟩, fun a o h _ => by rw [upd_ne (ne_of_none h hL)]; exact h⟩ (upd_ne fun z => rb.isat (by rw [z]; exact hL))⟩⟩
  rintro i n H1 ⟨ι1, m1, acc, vacc, rest, en, hi, l1, rm1, hL1, eL, rva, hal, hc1, hrr⟩
  by_cases hlt : i < s.1.items.length
  · rw [List.drop_eq_getElem_cons hlt] at hc1
    unfold cmpL at hc1
    split at hc1
    next hc =>
      obtain ⟨ρ', h5, hc1⟩ := bind_some hc1
      obtain ⟨b, h6, hc1⟩ := bind_some hc1
      obtain ⟨_, w2⟩ := wk ι1 H1 m1 i l1 rm1 hc
      obtain ⟨go, w3⟩ := w2 _ (List.getElem?_eq_getElem hlt)
      refine .inr ⟨go, fun H' => ∃ ι1 m1 acc vacc rest, i + 1 ≤ s.1.items.length ∧ Le ι0 H0 ι1 H' ∧ RM K ι1 H' m1 ∧ L ∉ ι1 ∧ H' L = some (.lst vacc) ∧ RVs K ι1 H' acc vacc ∧ acc.length ≤ i + 1 ∧
        cmpL t ca fa s.1.live (wipeE ρ vs) (s.1.items.drop (i + 1)) m1 = some rest ∧ rr = (acc ++ rest.1, rest.2), fun H' ⟨a, b, c, d, e, f⟩ => ⟨s.1.items.length - (i + 1), by omega, a, b, c, d, e, rfl, f⟩, fun x H3 hy => ?_⟩
      obtain ⟨l3, rm3, rv3⟩ := w3 x H3 hy
      have rs3 : RS K ι1 H3 (L2.wipe σ vs) (wipeE ρ vs) := (((rs.mono l0).mono l1).mono l3).wipe vs
      have stay : ∀ {ι' H'}, Le ι1 H3 ι' H' → L ∉ ι' ∧ H' L = some (.lst vacc) := fun {ι' H'} l' => by
        have eL3 : H3 L = some (.lst vacc) := l3.keep L _ eL (.inr hL1)
        refine ⟨fun hm => ?_, l'.keep L _ eL3 (.inr hL1)⟩
        obtain ⟨nw, e2, f⟩ := l'.pre
        rw [e2] at hm
        rcases List.mem_append.mp hm with z | z
        · exact hL1 z
        · rw [f L z] at eL3; cases eL3
      refine tgL_of hw rs3 rv3 h5 fun σ2 rs2 ew => ⟨by rw [ew, wipe_wipe], ?_⟩
      refine ⟨ι1, ρ', m1, b.1, b.2, rs2, rm3, h6, fun ι4 H4 l4 rm4 bd4 => ?_⟩
      have l04 : Le ι0 H0 ι4 H4 := l1.tr rm1 (l3.tr rm3 l4)
      split at hc1
      · rename_i e1
        rw [e1]
        refine iteT ?_
        obtain ⟨y, h7, hc1⟩ := bind_some hc1
        obtain ⟨r2, h8, hc1⟩ := bind_some hc1
        cases hc1
        refine ⟨ι4, ρ', b.2, y.1, y.2, rs2.mono l4, rm4, h7, fun v ι5 H5 l5 rm5 ro5 bd5 => ?_⟩
        obtain ⟨hL5, eL5⟩ := stay (l4.tr rm4 l5)
        have ro6 : RO K H3 ι5 H5 y.1 v := ro5.from l4 rm4
        obtain ⟨ι6, l6, rm6, rv6, rs6, up, ups⟩ := ro6.val (l4.tr rm4 l5) rm5 ((rs2.mono l4).mono l5)
        obtain ⟨hL6, _⟩ := stay l6
        have hz : vacc.length < sizeLine := by rw [← rva.length]; omega
        have mL : Mut (H5 L) := by rw [eL5]; trivial
        have ku : Kp ι6 H5 ι6 (upd H5 L (.lst (vacc ++ [v]))) := Kp.upd mL
        refine ⟨vacc, eL5, hz, ι6, _, acc ++ [(val y.1 y.2).1], vacc ++ [v], r2, by omega, ?_, ?_, hL6, upd_same, ?_, by simp; omega, h8, by rw [hrr]; simp⟩
        · have l06 : Le ι0 H0 ι6 H5 := l1.tr rm1 (l3.tr rm3 l6)
          exact ⟨l06.pre, fun a o h c => by rw [upd_ne (ne_of_none h hL)]; exact l06.keep a o h c⟩
        · exact ⟨rm6.nd, rm6.len, fun n b e => let ⟨a, e1, rb⟩ := rm6.ob n b e; ⟨a, e1, rb.kp ku (upd_ne fun z => by subst z; exact hL6 (List.mem_of_getElem? e1))⟩⟩
        · exact (((ups _ _ (((rva.mono l3).mono l4).mono l5)).append (.cons rv6 .nil))).kp ku
      · rename_i e1
        rw [e1]
        refine iteF ?_
        obtain ⟨hL4, eL4⟩ := stay l4
        exact ⟨ι4, b.2, acc, vacc, rest, by omega, l04, rm4, hL4, eL4, (rva.mono l3).mono l4, by omega, hc1, hrr⟩
    next => cases hc1
  · rw [List.drop_eq_nil_of_le (by omega)] at hc1
    unfold cmpL at hc1
    split at hc1
    next hc =>
      cases hc1
      obtain ⟨w1, _⟩ := wk ι1 H1 m1 i l1 rm1 hc
      refine .inl ⟨w1 (by omega), ?_⟩
      rw [List.append_nil] at hrr
      subst hrr
      exact k _ ι1 H1 (l0.tr rm0 l1) rm1 ⟨L, rfl, l0.back rm0 hL, hL1, vacc, eL, rva⟩
    next => cases hc1
theorem se_comp {it : I} {vs : List Nat} {t : Tg} (h0 : PE X e (tLc (tI X.K it) (tgL X.K t) (tT X.K ca) (tE X.K fa) vs)) (hw : ∀ i ∈ t.ixs, i ∈ vs) : SE X e (eComp it vs t ca fa) := pe_imp h0 fun σ H Q ⟨ι, ρ, m, z, m', rs, rm, hf, k⟩ => cmp_core hw rs rm hf k
theorem ss_setComp {st : Stmt} {it : I} {vs : List Nat} {t : Tg} {i : Nat} (h0 : PS X st (tAsg (tLc (tI X.K it) (tgL X.K t) (tT X.K ca) (tE X.K fa) vs) (gName i))) (hw : ∀ i ∈ t.ixs, i ∈ vs) : SS X st (sSet i (eComp it vs t ca fa)) := ps_imp h0 fun D σ H ⟨ι, ρ, m, r, rs, rm, hf, k⟩ => by
  obtain ⟨x, h3, hf⟩ := bind_some hf
  cases hf
  refine cmp_core hw rs rm (r := x.1) (m' := x.2) h3 fun v ι1 H1 l1 rm1 ro1 => ?_
  obtain ⟨ι2, l2, rm2, rv, rs2, _, _⟩ := ro1.val l1 rm1 (rs.mono l1)
  exact k _ ι2 H1 l2 (rs2.put rv) rm2
end

/-! ### a def's end: what it made goes, but for what it hands back -/
mutual
def D.lo (n : Nat) : D → Prop
  | .tup xs => loL n xs
  | .fl xs => loL n xs
  | .par xs => loL n xs
  | .ref k => k < n
  | .lam _ xs => loL n xs
  | _ => True
def loL (n : Nat) : List D → Prop
  | [] => True
  | d :: ds => d.lo n ∧ loL n ds
end
def loK (n : Nat) : List (D × D) → Prop
  | [] => True
  | d :: ds => d.1.lo n ∧ d.2.lo n ∧ loK n ds
def Ob.lo (n : Nat) : Ob → Prop
  | .lst xs => loL n xs
  | .dct kvs => loK n kvs
  | .dcr kvs => loK n kvs
  | .tab _ => True
def okM (m m' : Mem) : Prop := ∀ i b, i < m.length → m'[i]? = some b → m[i]? = some b ∨ b.lo m.length
open Classical in
noncomputable def shut (m : Mem) (r : Out) (m' : Mem) : Out × Mem :=
  if okM m m' then match r with
    | .v d => if d.lo m.length then (.v d, m'.take m.length) else match d with
      | .ref k => (match m'[k]? with
        | some b => if b.lo m.length then (.o b, m'.take m.length) else (.v (.ref k), m')
        | none => (.v (.ref k), m'))
      | d => (.v d, m')
    | .o b => if b.lo m.length then (.o b, m'.take m.length) else (.o b, m')
  else (r, m')
noncomputable def fnD (np ns : Nat) (body : S) : Fn := fun ds m => if ds.length = np then (body (ds.map some ++ List.replicate (ns - np) none) m).bind fun r => match r with
  | .rt x m' => some (shut m x m')
  | .nx _ m' => some (shut m (.v .non) m')
  | _ => none
  else none
section
variable {K : PySem.W.Frag} {ι ι' : List Addr} {H H' : Hp} {m m' : Mem}
mutual
theorem RV.down {n : Nat} (e : ∀ k a, k < n → ι'[k]? = some a → ι[k]? = some a) : ∀ {d : D} {v : V}, RV K ι' H d v → d.lo n → RV K ι H d v
  | _, _, .non, _ => .non
  | _, _, .bl b, _ => .bl b
  | _, _, .int i, _ => .int i
  | _, _, .str s, _ => .str s
  | _, _, .tup h r, b => .tup h (RVs.down e r (by simpa [D.lo] using b))
  | _, _, .fl h r, b => .fl h (RVs.down e r (by simpa [D.lo] using b))
  | _, _, .par h r, b => .par h (RVs.down e r (by simpa [D.lo] using b))
  | _, _, .ref h, b => .ref (e _ _ (by simpa [D.lo] using b) h)
  | _, _, .lam h r, b => .lam h (RVs.down e r (by simpa [D.lo] using b))
theorem RVs.down {n : Nat} (e : ∀ k a, k < n → ι'[k]? = some a → ι[k]? = some a) : ∀ {ds : List D} {vs : List V}, RVs K ι' H ds vs → loL n ds → RVs K ι H ds vs
  | _, _, .nil, _ => .nil
  | _, _, .cons h r, b => by
    rw [loL] at b
    exact .cons (RV.down e h b.1) (RVs.down e r b.2)
end
mutual
theorem RV.bel : ∀ {d : D} {v : V}, RV K ι H d v → d.lo ι.length
  | _, _, .non => by simp [D.lo]
  | _, _, .bl b => by simp [D.lo]
  | _, _, .int i => by simp [D.lo]
  | _, _, .str s => by simp [D.lo]
  | _, _, .tup h r => by rw [D.lo]; exact RVs.bel r
  | _, _, .fl h r => by rw [D.lo]; exact RVs.bel r
  | _, _, .par h r => by rw [D.lo]; exact RVs.bel r
  | _, _, .ref h => by rw [D.lo]; exact (List.getElem?_eq_some_iff.mp h).1
  | _, _, .lam h r => by rw [D.lo]; exact RVs.bel r
theorem RVs.bel : ∀ {ds : List D} {vs : List V}, RVs K ι H ds vs → loL ι.length ds
  | _, _, .nil => by simp [loL]
  | _, _, .cons h r => by rw [loL]; exact ⟨RV.bel h, RVs.bel r⟩
end
mutual
theorem noRefKey (n : Nat) : ∀ k : Key, (kD k).lo n
  | .inl i => by simp [kD, D.lo]
  | .inr i => by simp [kD, D.lo]
end
theorem noRefKeys (n : Nat) : ∀ ks : List Key, loL n (ks.map kD)
  | [] => by simp [loL]
  | k :: ks => by simp only [List.map_cons]; rw [loL]; exact ⟨noRefKey n k, noRefKeys n ks⟩
mutual
theorem noRefN (n : Nat) : ∀ k : NestedKey, (kN k).lo n
  | .none => by simp [kN, D.lo]
  | .num i => by simp [kN, D.lo]
  | .text i => by simp [kN, D.lo]
  | .tup ks => by rw [kN, D.lo]; exact noRefNs n ks
theorem noRefNs (n : Nat) : ∀ ks : List NestedKey, loL n (kNs ks)
  | [] => by rw [kNs, loL]; trivial
  | k :: ks => by rw [kNs, loL]; exact ⟨noRefN n k, noRefNs n ks⟩
end
theorem RB.bel {b : Ob} {a : Addr} (h : RB K ι H b a) : b.lo ι.length := by
  cases b with
  | lst xs => obtain ⟨vs, _, r⟩ := h; exact r.bel
  | dct kvs =>
    obtain ⟨ks, e1, r⟩ := h
    show loK _ _
    clear e1
    induction r with
    | nil => simp [loK]
    | cons h _ ih => rw [loK]; exact ⟨by rw [h.1]; exact noRefKey _ _, h.2.bel, ih⟩
  | dcr kvs =>
    obtain ⟨ks, e1, r⟩ := h
    show loK _ _
    clear e1
    induction r with
    | nil => simp [loK]
    | cons h _ ih => rw [loK]; exact ⟨by rw [h.1]; exact noRefN _ _, h.2.bel, ih⟩
  | tab q => trivial
theorem RB.down {b : Ob} {a : Addr} {n : Nat} (e : ∀ k a, k < n → ι'[k]? = some a → ι[k]? = some a) (h : RB K ι' H b a) (hb : b.lo n) : RB K ι H b a := by
  cases b with
  | lst xs => obtain ⟨vs, e1, r⟩ := h; exact ⟨vs, e1, r.down e hb⟩
  | dct kvs =>
    have hb' : loK n kvs := hb
    obtain ⟨ks, e1, r⟩ := h
    refine ⟨ks, e1, ?_⟩
    clear hb e1
    induction r with
    | nil => exact .nil
    | cons h _ ih => rw [loK] at hb'; exact .cons ⟨h.1, h.2.down e hb'.2.1⟩ (ih hb'.2.2)
  | dcr kvs =>
    have hb' : loK n kvs := hb
    obtain ⟨ks, e1, r⟩ := h
    refine ⟨ks, e1, ?_⟩
    clear hb e1
    induction r with
    | nil => exact .nil
    | cons h _ ih => rw [loK] at hb'; exact .cons ⟨h.1, h.2.down e hb'.2.1⟩ (ih hb'.2.2)
  | tab q => exact h
theorem shut_ok {r : Out} {v : V} (rm0 : RM K ι H m) (l : Le ι H ι' H') (rm : RM K ι' H' m') (ro : RO K H ι' H' r v) : ∃ ι2, Le ι H ι2 H' ∧ RM K ι2 H' (shut m r m').2 ∧ RO K H ι2 H' (shut m r m').1 v := by
  obtain ⟨nw, e, hn⟩ := l.pre
  have le0 : Le ι H ι H' := ⟨⟨[], by simp, by simp⟩, l.keep⟩
  have dn : ∀ k a, k < m.length → ι'[k]? = some a → ι[k]? = some a := fun k a hk h => by
    rw [e, List.getElem?_append_left (by rw [rm0.len]; exact hk)] at h; exact h
  have keepAll : (RM K ι' H' m' ∧ RO K H ι' H' r v) := ⟨rm, ro⟩
  by_cases hok : okM m m'
  · have hlen : m.length ≤ m'.length := by rw [← rm0.len, ← rm.len, e]; simp
    have rmT : RM K ι H' (m'.take m.length) := by
      refine ⟨rm0.nd, by rw [List.length_take, rm0.len]; omega, fun n b hb => ?_⟩
      have hnl : n < m.length := by
        have := (List.getElem?_eq_some_iff.mp hb).1
        rw [List.length_take] at this; omega
      rw [List.getElem?_take_of_lt hnl] at hb
      obtain ⟨a, e1, rb⟩ := rm.ob n b hb
      have bb : b.lo m.length := by
        rcases hok n b hnl hb with h | h
        · obtain ⟨_, _, rb0⟩ := rm0.ob n b h
          have := rb0.bel; rw [rm0.len] at this; exact this
        · exact h
      exact ⟨a, dn n a hnl e1, rb.down dn bb⟩
    unfold shut
    rw [if_pos hok]
    cases r with
    | v d =>
      by_cases hb : d.lo m.length
      · simp only [if_pos hb]
        exact ⟨ι, le0, rmT, RV.down dn ro hb⟩
      · simp only [if_neg hb]
        cases d with
        | ref k =>
          cases hk : m'[k]? with
          | none => simp only [hk]; exact ⟨ι', l, rm, ro⟩
          | some b =>
            by_cases hbb : b.lo m.length
            · simp only [hk, if_pos hbb]
              obtain ⟨a, e1, rb⟩ := rm.ob k b hk
              cases ro with
              | ref h1 =>
                rw [e1] at h1
                cases h1
                have hk2 : m.length ≤ k := by
                  rw [D.lo] at hb; omega
                have hm : a ∈ nw := by
                  rw [e, List.getElem?_append_right (by rw [rm0.len]; exact hk2)] at e1
                  exact List.mem_of_getElem? e1
                exact ⟨ι, le0, rmT, a, rfl, hn a hm, fun z => rm0.there a z (hn a hm), rb.down dn hbb⟩
            · simp only [hk, if_neg hbb]
              exact ⟨ι', l, rm, ro⟩
        | _ => exact ⟨ι', l, rm, ro⟩
    | o b =>
      by_cases hb : b.lo m.length
      · simp only [if_pos hb]
        obtain ⟨p, e1, e2, e3, rb⟩ := ro
        exact ⟨ι, le0, rmT, p, e1, e2, fun z => e3 (l.subset p z), rb.down dn hb⟩
      · simp only [if_neg hb]
        exact ⟨ι', l, rm, ro⟩
  · unfold shut
    rw [if_neg hok]
    exact ⟨ι', l, rm, ro⟩
end
theorem fnD_len {np ns : Nat} {body : S} : ∀ ds m r, fnD np ns body ds m = some r → ds.length = np := fun ds m r h => by
  unfold fnD at h
  split at h
  · assumption
  · cases h
section
variable {P : Program} {w : World} {K : PySem.W.Frag} {mg : Str → Option Value} {base : Heap}
theorem RVs.start {ι : List Addr} {H : Hp} {N : List Str} : ∀ {ds : List D} {vs : List V}, RVs K ι H ds vs → RS K ι H (start N vs) (ds.map some ++ List.replicate (N.length - ds.length) none) := fun {ds vs} r => by
  unfold L2.start
  rw [r.length]
  refine ⟨by simp [r.length], fun i d e => ?_⟩
  by_cases hi : i < ds.length
  · rw [List.getElem?_append_left (by simpa using hi), List.getElem?_map] at e
    cases q : ds[i]? with
    | none => rw [q] at e; cases e
    | some d' =>
      rw [q] at e
      cases e
      obtain ⟨v, h1, h2⟩ := r.get q
      exact ⟨v, by rw [List.getElem?_append_left (by rw [List.length_map, ← r.length]; exact hi), List.getElem?_map, h1]; rfl, h2⟩
  · rw [List.getElem?_append_right (by simpa using hi), List.getElem?_replicate] at e
    split at e <;> cases e
/-- THE RULE for a def -/
theorem fn_ok {x qual : Str} {st : Stmt} {f : Addr} {fd : FuncData} {N ps : List Str} {k : Nat} {body : S} {np ns : Nat} (F : Fun K x qual st f fd) (Sc : FnScope N ps (defScope st)) (hp : ps.length = np) (hn : N.length = ns)
    (hb : ∀ (cdv : Value) (A : Around) (outer : List PySem.Env) (s : Shared) (H : Hp) (E : XK), Room k (A.deeper (PyProof.Rows.envOfC qual (defScope st) s.heap.objs.size f cdv)) → SSs (cxOf CX0 P w K mg base N qual (defScope st) f cdv A outer s H E).nox (defBody st) body) :
    FnOk P w K mg base CX0 (k + 1) f fd ps (spF K np (fnD np ns body)) := by
  refine F.ok Sc (fun vs H Q E h => ?_) (fun cdv A outer s H vs Q E hr h => ?_)
  · obtain ⟨ι, ds, m, r, m', hl, rvs, _⟩ := h
    rw [← rvs.length, hl, hp]
  · obtain ⟨ι, ds, m, r, m', hl, rvs, rm, hf, k⟩ := h
    refine ⟨_, hb cdv A outer s H E hr, ?_⟩
    unfold fnD at hf
    rw [if_pos hl] at hf
    obtain ⟨z, h1, hf⟩ := bind_some hf
    have rs := rvs.start (N := N)
    rw [hl, hn] at rs
    refine ⟨ι, _, m, z, rs, rm, h1, ?_⟩
    cases z with
    | rt x m1 =>
      have e : shut m x m1 = (r, m') := Option.some.inj hf
      intro v ι1 H1 l1 rm1 ro1
      obtain ⟨ι2, a, b, c⟩ := shut_ok rm l1 rm1 ro1
      rw [e] at b c
      exact k v ι2 H1 a b c
    | nx ρ' m1 =>
      have e : shut m (.v .non) m1 = (r, m') := Option.some.inj hf
      intro σ ι1 H1 l1 rs1 rm1
      obtain ⟨ι2, a, b, c⟩ := shut_ok (r := .v .non) (v := V.non) rm l1 rm1 (show RO K H ι1 H1 (.v .non) V.non from RV.non)
      rw [e] at b c
      exact k _ ι2 H1 a b c
    | bk _ _ => cases hf
    | ct _ _ => cases hf
end
end Q
namespace Q
open PySem L2

/-! ### helpers -/
theorem bdec {α : Type} [DecidableEq α] (a b : α) [BEq α] [LawfulBEq α] : (a == b) = decide (a = b) := by
  by_cases h : a = b
  · subst h; simp
  · simp [h]
theorem RVs.rep {K : PySem.W.Frag} {ι : List Addr} {H : Hp} {ds : List D} {vs : List V} (r : RVs K ι H ds vs) : ∀ n : Nat, RVs K ι H (List.replicate n ds).flatten (List.replicate n vs).flatten
  | 0 => .nil
  | n + 1 => by rw [List.replicate_succ, List.replicate_succ, List.flatten_cons, List.flatten_cons]; exact r.append (r.rep n)
theorem nd_inj {α : Type} {l : List α} (nd : l.Nodup) {i j : Nat} (hi : i < l.length) (hj : j < l.length) (e : l[i] = l[j]) : i = j := by
  have q := List.pairwise_iff_getElem.mp nd
  rcases Nat.lt_trichotomy i j with h | h | h
  · exact absurd e (q i j hi hj h)
  · exact h
  · exact absurd e.symm (q j i hj hi h)
section
variable {K : PySem.W.Frag} {ι : List Addr} {H H0 : Hp} {m : Mem} {p : Addr} {vs : List V} {ds : List D}
theorem Le.newAt {o : HO} (hp : H p = none) : Le ι H ι (upd H p o) := ⟨⟨[], by simp, by simp⟩, fun a u h _ => by rw [upd_ne (ne_of_none h hp)]; exact h⟩
theorem RM.newAt {o : HO} (rm : RM K ι H m) (hp : H p = none) : RM K ι (upd H p o) m :=
  ⟨rm.nd, rm.len, fun n b e => let ⟨a, e1, rb⟩ := rm.ob n b e; ⟨a, e1, rb.mono (Le.newAt hp) (upd_ne fun z => rb.isat (by rw [z]; exact hp))⟩⟩
theorem new_tup {o : Obj} (hp : H p = none) (ho : o.dict = none) (r : RVs K ι H ds vs) : RV K ι (upd H p (.frz o (.tup vs))) (.tup ds) (.ref p) := .tup (.inl ⟨o, upd_same, ho⟩) (r.mono (Le.newAt hp))
theorem new_par (hp : H p = none) (r : RVs K ι H ds vs) : RV K ι (upd H p (.tup vs)) (.par ds) (.ref p) := .par upd_same (r.mono (Le.newAt hp))
theorem new_lst (rm : RM K ι H m) (hp : H p = none) (r : RVs K ι H ds vs) : RO K H ι (upd H p (.lst vs)) (.o (.lst ds)) (.ref p) := ⟨p, rfl, hp, fun z => rm.there p z hp, vs, upd_same, r.mono (Le.newAt hp)⟩
/-- a list in the memory is written -/
theorem set_lst {n : Nat} {a : Addr} {ws : List V} {es : List D} (rm : RM K ι H m) (e : ι[n]? = some a) (h : H a = some (.lst ws)) (r : RVs K ι H es vs) :
    Le ι H ι (upd H a (.lst vs)) ∧ RM K ι (upd H a (.lst vs)) (m.set n (.lst es)) := by
  have mu : Mut (H a) := by rw [h]; trivial
  have ku : Kp ι H ι (upd H a (.lst vs)) := Kp.upd mu
  have ha : a ∈ ι := List.mem_of_getElem? e
  refine ⟨⟨⟨[], by simp, by simp⟩, fun b u hb c => ?_⟩, ⟨rm.nd, by simp [rm.len], fun k b hb => ?_⟩⟩
  · by_cases z : b = a
    · subst z
      rw [hb] at mu
      rcases c with c | c
      · exact (nofz mu c).elim
      · exact absurd ha c
    · rw [upd_ne z]; exact hb
  · by_cases z : n = k
    · subst z
      have hl : n < m.length := by rw [← rm.len]; exact (List.getElem?_eq_some_iff.mp e).1
      rw [List.getElem?_set_self hl] at hb
      cases hb
      exact ⟨a, e, vs, upd_same, r.kp ku⟩
    · rw [List.getElem?_set_ne z] at hb
      obtain ⟨a', e1, rb⟩ := rm.ob k b hb
      refine ⟨a', e1, rb.kp ku (upd_ne fun q => z ?_)⟩
      subst q
      have h1 := (List.getElem?_eq_some_iff.mp e)
      have h2 := (List.getElem?_eq_some_iff.mp e1)
      exact nd_inj rm.nd h1.1 h2.1 (h1.2.trans h2.2.symm)
end
/-- lists and tuples that are read -/
def seqOf (x : Out) (m : Mem) : Option (List D) := match x with
  | .v (.tup a) => some a
  | .v (.fl a) => some a
  | .v (.ref n) => (match m[n]? with | some (.lst a) => some a | _ => none)
  | .o (.lst a) => some a
  | _ => none
/-- lists that stand in the heap by themselves -/
def lstOf (x : Out) (m : Mem) : Option (List D) := match x with
  | .v (.ref n) => (match m[n]? with | some (.lst a) => some a | _ => none)
  | .o (.lst a) => some a
  | _ => none
section
variable {K : PySem.W.Frag} {ι : List Addr} {H H0 : Hp} {m : Mem} {x : Out} {v : V} {xs : List D}
theorem lst_at (rm : RM K ι H m) (ro : RO K H0 ι H x v) (h : lstOf x m = some xs) : ∃ a vs, v = .ref a ∧ H a = some (.lst vs) ∧ RVs K ι H xs vs := by
  unfold lstOf at h
  split at h
  · split at h
    · rename_i n _ ys hm
      cases h
      cases ro with
      | ref e =>
        obtain ⟨a, e1, vs, e2, r⟩ := rm.ob _ _ hm
        rw [e] at e1
        cases e1
        exact ⟨_, vs, rfl, e2, r⟩
    · cases h
  · cases h
    obtain ⟨p, e, _, _, vs, e2, r⟩ := ro
    exact ⟨p, vs, e, e2, r⟩
  · cases h
theorem seq_at (rm : RM K ι H m) (ro : RO K H0 ι H x v) (h : seqOf x m = some xs) : ∃ a vs, v = .ref a ∧ (SqL K H a vs ∨ SqT K H a vs) ∧ RVs K ι H xs vs := by
  unfold seqOf at h
  split at h
  · cases h
    cases ro with
    | tup hs r => exact ⟨_, _, rfl, .inr hs.sq, r⟩
  · cases h
    cases ro with
    | fl hs r => exact ⟨_, _, rfl, .inl hs.sq, r⟩
  · split at h
    · rename_i n _ ys hm
      cases h
      cases ro with
      | ref e =>
        obtain ⟨a, e1, vs, e2, r⟩ := rm.ob _ _ hm
        rw [e] at e1
        cases e1
        exact ⟨_, vs, rfl, .inl (.inl (.inl e2)), r⟩
    · cases h
  · cases h
    obtain ⟨p, e, _, _, vs, e2, r⟩ := ro
    exact ⟨p, vs, e, .inl (.inl (.inl e2)), r⟩
  · cases h
end

/-- lists and tuples, apart -/
theorem seq_at2 {K : PySem.W.Frag} {ι : List Addr} {H H0 : Hp} {m : Mem} {x : Out} {v : V} {xs : List D} (rm : RM K ι H m) (ro : RO K H0 ι H x v) (h : seqOf x m = some xs) : (∃ a vs, v = .ref a ∧ SqL K H a vs ∧ RVs K ι H xs vs) ∨ ∃ a vs, v = .ref a ∧ TpAt K H a vs ∧ RVs K ι H xs vs := by
  unfold seqOf at h
  split at h
  · cases h
    cases ro with
    | tup hs r => exact .inr ⟨_, _, rfl, hs, r⟩
  · cases h
    cases ro with
    | fl hs r => exact .inl ⟨_, _, rfl, hs.sq, r⟩
  · split at h
    · rename_i n _ ys hm
      cases h
      cases ro with
      | ref e =>
        obtain ⟨a, e1, vs, e2, r⟩ := rm.ob _ _ hm
        rw [e] at e1
        cases e1
        exact .inl ⟨_, vs, rfl, .inl (.inl e2), r⟩
    · cases h
  · cases h
    obtain ⟨p, e, _, _, vs, e2, r⟩ := ro
    exact .inl ⟨p, vs, e, .inl (.inl e2), r⟩
  · cases h
/-! ### + -/
noncomputable def addF (x : Out) (y : Out) (m : Mem) : Option (Out × Mem) := match x, y with
  | .v (.int i), .v (.int j) => some (.v (.int (i + j)), m)
  | .v (.str a), .v (.str b) => if fits (a.length + b.length) then some (.v (.str (a ++ b)), m) else none
  | .v (.tup a), .v (.tup b) => if fits (a.length + b.length) then some (.v (.tup (a ++ b)), m) else none
  | x, y => (lstOf x m).bind fun a => (lstOf y m).bind fun b => if fits (a.length + b.length) then some (.o (.lst (a ++ b)), m) else none
def rAddU (K : PySem.W.Frag) : R2 := fun x y H Q => ((((∃ i j, x = .int i ∧ y = .int j ∧ Q (.int (i + j)) H) ∨ (∃ i j, x = .str i ∧ y = .str j ∧ i.length + j.length ≤ sizeLine ∧ Q (.str (i ++ j)) H)) ∨ rCatN K x y H Q) ∨ rCat x y H Q)
theorem op_addU {X : Cx} : OpR X (binaryOp .Add) (rAddU X.K) := ((op_add.or op_add_str).or op_catN).or op_cat
theorem addU {K : PySem.W.Frag} : R2S K (rAddU K) addF := by
  intro ι H H0 m x y z vx vy m' Q rm bd rx ry hf k
  unfold addF at hf
  split at hf
  · cases hf; cases rx; cases ry
    exact .inl (.inl (.inl ⟨_, _, rfl, rfl, k _ ι H (Le.refl _ _) rm (RV.int _)⟩))
  · split at hf
    · rename_i hl; cases hf; cases rx; cases ry
      exact .inl (.inl (.inr ⟨_, _, rfl, rfl, hl, k _ ι H (Le.refl _ _) rm (RV.str _)⟩))
    · cases hf
  · split at hf
    · rename_i hl; cases hf
      cases rx with
      | tup h1 r1 =>
        cases ry with
        | tup h2 r2 =>
          refine .inl (.inr ⟨_, _, _, _, rfl, rfl, h1.sq, h2.sq, by rw [← r1.length, ← r2.length]; exact hl, fun e => ?_, fun _ e => ?_, fun _ _ p o hp ho => ?_⟩)
          · subst e; cases r1
            exact k _ ι H (Le.refl _ _) rm (RV.tup h2 r2)
          · subst e; cases r2
            rw [List.append_nil] at k
            exact k _ ι H (Le.refl _ _) rm (RV.tup h1 r1)
          · exact k _ ι _ (Le.newAt hp) (rm.newAt hp) (new_tup hp ho (r1.append r2))
    · cases hf
  · obtain ⟨a, h1, hf⟩ := bind_some hf
    obtain ⟨b, h2, hf⟩ := bind_some hf
    split at hf
    · rename_i hl; cases hf
      obtain ⟨p1, v1, rfl, e1, r1⟩ := lst_at rm rx h1
      obtain ⟨p2, v2, rfl, e2, r2⟩ := lst_at rm ry h2
      exact .inr ⟨_, _, _, _, rfl, rfl, e1, e2, by rw [← r1.length, ← r2.length]; exact hl, fun p hp => k _ ι _ (Le.newAt hp) (rm.newAt hp) (new_lst rm hp (r1.append r2))⟩
    · cases hf

/-! ### other arithmetic of ints -/
def subF (x : Out) (y : Out) (m : Mem) : Option (Out × Mem) := match x, y with
  | .v (.int i), .v (.int j) => some (.v (.int (i - j)), m)
  | _, _ => none
theorem subU {K : PySem.W.Frag} : R2S K (rI0 fun i j => .int (i - j)) subF := by
  intro ι H H0 m x y z vx vy m' Q rm bd rx ry hf k
  unfold subF at hf
  split at hf
  · cases hf; cases rx; cases ry
    exact ⟨_, _, rfl, rfl, k _ ι H (Le.refl _ _) rm (RV.int _)⟩
  · cases hf
def modF (x : Out) (y : Out) (m : Mem) : Option (Out × Mem) := match x, y with
  | .v (.int i), .v (.int j) => if 0 < j then some (.v (.int (i % j)), m) else none
  | _, _ => none
theorem modU {K : PySem.W.Frag} : R2S K (rI (fun _ j => 0 < j) fun i j => .int (i % j)) modF := by
  intro ι H H0 m x y z vx vy m' Q rm bd rx ry hf k
  unfold modF at hf
  split at hf
  · split at hf
    · rename_i hj; cases hf; cases rx; cases ry
      exact ⟨_, _, rfl, rfl, hj, k _ ι H (Le.refl _ _) rm (RV.int _)⟩
    · cases hf
  · cases hf
def divOk (j : Int) : Prop := 0 < j ∧ j < 1073741824
noncomputable instance (j : Int) : Decidable (divOk j) := Classical.propDecidable _
@[simp] theorem divOk_nat {n : Nat} (h : 0 < n) (h2 : n ≤ 100000) : divOk (n : Int) := ⟨by omega, by omega⟩
@[simp] theorem divOk_2 : divOk 2 := ⟨by omega, by omega⟩
@[simp] theorem divOk_65537 : divOk 65537 := ⟨by omega, by omega⟩
noncomputable def divF (x : Out) (y : Out) (m : Mem) : Option (Out × Mem) := match x, y with
  | .v (.int i), .v (.int j) => if divOk j then some (.v (.int (i / j)), m) else none
  | _, _ => none
theorem divU {K : PySem.W.Frag} : R2S K (rI CDiv fun i j => .int (i / j)) divF := by
  intro ι H H0 m x y z vx vy m' Q rm bd rx ry hf k
  unfold divF at hf
  split at hf
  · split at hf
    · rename_i hj; cases hf; cases rx; cases ry
      exact ⟨_, _, rfl, rfl, hj, k _ ι H (Le.refl _ _) rm (RV.int _)⟩
    · cases hf
  · cases hf
def powOk (i j : Int) : Prop := 0 ≤ j ∧ j ≤ 1000000 ∧ i.natAbs < 2 ^ 64
noncomputable instance (i j : Int) : Decidable (powOk i j) := Classical.propDecidable _
noncomputable def powF (x : Out) (y : Out) (m : Mem) : Option (Out × Mem) := match x, y with
  | .v (.int i), .v (.int j) => if powOk i j then some (.v (.int (i ^ j.toNat)), m) else none
  | _, _ => none
theorem powU {K : PySem.W.Frag} : R2S K (rI CPow fun i j => .int (i ^ j.toNat)) powF := by
  intro ι H H0 m x y z vx vy m' Q rm bd rx ry hf k
  unfold powF at hf
  split at hf
  · split at hf
    · rename_i hj; cases hf; cases rx; cases ry
      exact ⟨_, _, rfl, rfl, hj, k _ ι H (Le.refl _ _) rm (RV.int _)⟩
    · cases hf
  · cases hf
def strMulOk (a : Str) (n : Int) : Prop := -(2 ^ 63) ≤ n ∧ n < 2 ^ 63 ∧ a.length * n.toNat ≤ sizeLine
theorem op_mul_str {X : Cx} : OpR X (binaryOp .Mult) (fun x y H Q => ∃ a n, x = .str a ∧ y = .int n ∧ MulOk a n ∧ Q (.str (Txt.mul a n)) H) := by
  intro pins s σ H x y v u Q I rx ry h
  obtain ⟨a, n, rfl, rfl, hok, q⟩ := h
  obtain ⟨t, rfl⟩ := rx
  obtain ⟨t', rfl⟩ := ry
  exact SB.mul hok fun t' k => ⟨.str (Txt.mul a n), H, I.tok _, ⟨_, rfl⟩, q⟩
/-- within 63 bits; a small power -/
def i63 (n : Int) : Prop := -(2 ^ 63) ≤ n ∧ n < 2 ^ 63
noncomputable instance (i : Int) : Decidable (i63 i) := Classical.propDecidable _
@[simp] theorem i63_of {n : Int} (h : -1000000000 ≤ n) (h2 : n ≤ 1000000000) : i63 n := ⟨by omega, by omega⟩
/-- products: one side within 64 bits -/
def mulOk (i j : Int) : Prop := (-(2 ^ 64) < i ∧ i < 2 ^ 64) ∨ (-(2 ^ 64) < j ∧ j < 2 ^ 64)
noncomputable instance (i j : Int) : Decidable (mulOk i j) := Classical.propDecidable _
noncomputable def mulF (x : Out) (y : Out) (m : Mem) : Option (Out × Mem) := match x, y with
  | .v (.int i), .v (.int j) => if mulOk i j then some (.v (.int (i * j)), m) else none
  | .v (.str a), .v (.int n) => if i63 n ∧ fits (a.length * n.toNat) then some (.v (.str (Txt.mul a n)), m) else none
  | x, .v (.int k) => (lstOf x m).bind fun a => if i63 k ∧ fits (a.length * k.toNat) then some (.o (.lst (List.replicate k.toNat a).flatten), m) else none
  | _, _ => none
theorem mulOk_of {a : Str} {n : Int} (h1 : -(2 ^ 63) ≤ n) (h2 : n < 2 ^ 63) (h3 : a.length * n.toNat ≤ sizeLine) : MulOk a n := by
  have hs : sizeLine = 16777216 := sizeLine_eq
  refine ⟨?_, fun h4 _ h5 => ?_, fun h4 _ => ?_⟩
  · have a1 : ¬ (n < -(2 ^ 63 : Int)) := by omega
    have a2 : ¬ (n ≥ 2 ^ 63) := by omega
    rw [decide_eq_false a1, decide_eq_false a2]; rfl
  · have h6 : (1 : Int) ≤ n := by omega
    have h7 : (a.length : Int) * n ≤ 16777216 := by
      have h := Int.ofNat_le.mpr (Nat.le_trans h3 (Nat.le_of_eq hs))
      rw [Int.natCast_mul, Int.toNat_of_nonneg (by omega)] at h
      exact h
    have h8 := Int.lt_ediv_add_one_mul_self (2 ^ 63 - 1) (b := n) (by omega)
    have h9 : ((2 ^ 63 - 1) / n + 1) * n ≤ (a.length : Int) * n := Int.mul_le_mul_of_nonneg_right (by omega) (by omega)
    omega
  · show decide (a.length * n.toNat > sizeLine) = false
    exact decide_eq_false (by omega)
def rMulU : R2 := fun x y H Q => ((rI CMul fun i j => .int (i * j)) x y H Q ∨ (∃ a n, x = .str a ∧ y = .int n ∧ MulOk a n ∧ Q (.str (Txt.mul a n)) H)) ∨ rRep x y H Q
theorem op_mulU {X : Cx} : OpR X (binaryOp .Mult) rMulU := (op_mul.or op_mul_str).or op_rep
theorem mulU {K : PySem.W.Frag} : R2S K rMulU mulF := by
  intro ι H H0 m x y z vx vy m' Q rm bd rx ry hf k
  unfold mulF at hf
  split at hf
  · split at hf
    · rename_i hj; cases hf; cases rx; cases ry
      exact .inl (.inl ⟨_, _, rfl, rfl, hj, k _ ι H (Le.refl _ _) rm (RV.int _)⟩)
    · cases hf
  · split at hf
    · rename_i hj; cases hf; cases rx; cases ry
      exact .inl (.inr ⟨_, _, rfl, rfl, mulOk_of hj.1.1 hj.1.2 hj.2, k _ ι H (Le.refl _ _) rm (RV.str _)⟩)
    · cases hf
  · obtain ⟨a, h1, hf⟩ := bind_some hf
    split at hf
    · rename_i hj; cases hf; cases ry
      obtain ⟨p1, v1, rfl, e1, r1⟩ := lst_at rm rx h1
      exact .inr ⟨_, _, _, rfl, rfl, e1, hj.1.1, hj.1.2, by rw [← r1.length]; exact hj.2, fun p hp => k _ ι _ (Le.newAt hp) (rm.newAt hp) (new_lst rm hp (r1.rep _))⟩
    · cases hf
  · cases hf
def negF (x : Out) (m : Mem) : Option (Out × Mem) := match x with
  | .v (.int i) => some (.v (.int (-i)), m)
  | _ => none
theorem negU {K : PySem.W.Frag} : R1S K (rU fun i => .int (-i)) negF := by
  intro ι H H0 m x z vx m' Q rm bd rx hf k
  unfold negF at hf
  split at hf
  · cases hf; cases rx
    exact ⟨_, rfl, k _ ι H (Le.refl _ _) rm (RV.int _)⟩
  · cases hf
/-! ### order of ints -/
def cmpF (p : Int → Int → Bool) (x : Out) (y : Out) (m : Mem) : Option (Out × Mem) := match x, y with
  | .v (.int i), .v (.int j) => some (.v (.bl (p i j)), m)
  | _, _ => none
theorem cmpU {K : PySem.W.Frag} {p : Int → Int → Bool} : R2S K (rI0 fun i j => .bl (p i j)) (cmpF p) := by
  intro ι H H0 m x y z vx vy m' Q rm bd rx ry hf k
  unfold cmpF at hf
  split at hf
  · cases hf; cases rx; cases ry
    exact ⟨_, _, rfl, rfl, k _ ι H (Le.refl _ _) rm (RV.bl _)⟩
  · cases hf
abbrev ltF : F2 := cmpF fun i j => decide (i < j)
abbrev leF : F2 := cmpF fun i j => decide (i ≤ j)
abbrev gtF : F2 := cmpF fun i j => decide (j < i)
abbrev geF : F2 := cmpF fun i j => decide (j ≤ i)

/-! ### == of data -/
mutual
def okD : Nat → D → Bool
  | _, .non => true
  | _, .bl _ => true
  | _, .int _ => true
  | _, .str s => PyData.strOk s
  | n, .tup xs => (match n with | 0 => false | n + 1 => okL n xs)
  | n, .fl xs => (match n with | 0 => false | n + 1 => okL n xs)
  | _, .par _ => false
  | _, .ref _ => false
  | _, .lam _ _ => false
def okL : Nat → List D → Bool
  | _, [] => true
  | n, d :: ds => okD n d && okL n ds
end
mutual
def D.eqb : D → D → Bool
  | .non, .non => true
  | .bl a, .bl b => decide (a = b)
  | .bl a, .int j => decide ((if a then 1 else 0) = j)
  | .int i, .bl b => decide (i = (if b then 1 else 0))
  | .int i, .int j => decide (i = j)
  | .str x, .str y => decide (x = y)
  | .fl xs, .fl ys => eqbL xs ys
  | .tup xs, .tup ys => eqbL xs ys
  | _, _ => false
def eqbL : List D → List D → Bool
  | [], [] => true
  | x :: xs, y :: ys => D.eqb x y && eqbL xs ys
  | _, _ => false
end
mutual
def D.pd : D → PyData
  | .non => .none
  | .bl b => .bool b
  | .int i => .int i
  | .str s => .str s
  | .tup xs => .tuple (pdL xs)
  | .fl xs => .list (pdL xs)
  | .par _ => .none
  | .ref _ => .none
  | .lam _ _ => .none
def pdL : List D → List PyData
  | [] => []
  | d :: ds => d.pd :: pdL ds
end
section
variable {K : PySem.W.Frag} {ι : List Addr} {H : Hp}
mutual
theorem RV.dp : ∀ {d : D} {v : V} {n : Nat}, RV K ι H d v → okD n d = true → Dp K H v d.pd
  | _, _, _, .non, _ => by rw [D.pd]; exact .non
  | _, _, _, .bl b, _ => by rw [D.pd]; exact .bl b
  | _, _, _, .int i, _ => by rw [D.pd]; exact .int i
  | _, _, _, .str s, _ => by rw [D.pd]; exact .str s
  | _, _, 0, .tup h r, e => by simp [okD] at e
  | _, _, n + 1, .tup h r, e => by rw [D.pd]; rw [okD] at e; exact .tup h.sq (RVs.dp r e)
  | _, _, 0, .fl h r, e => by simp [okD] at e
  | _, _, n + 1, .fl h r, e => by rw [D.pd]; rw [okD] at e; exact .lst h.sq (RVs.dp r e)
  | _, _, _, .par h r, e => by simp [okD] at e
  | _, _, _, .ref h, e => by simp [okD] at e
  | _, _, _, .lam h r, e => by simp [okD] at e
theorem RVs.dp : ∀ {ds : List D} {vs : List V} {n : Nat}, RVs K ι H ds vs → okL n ds = true → DpAll K H vs (pdL ds)
  | _, _, _, .nil, _ => by rw [pdL]; exact .nil
  | _, _, _, .cons h r, e => by
    rw [okL, Bool.and_eq_true] at e
    rw [pdL]
    exact .cons (RV.dp h e.1) (RVs.dp r e.2)
end
end
mutual
theorem pd_lay : ∀ (d : D) (n : Nat), okD n d = true → d.pd.canLay0 = true ∧ d.pd.depth ≤ n
  | .non, n, _ => by simp [D.pd, PyData.canLay0, PyData.depth]
  | .bl _, n, _ => by simp [D.pd, PyData.canLay0, PyData.depth]
  | .int _, n, _ => by simp [D.pd, PyData.canLay0, PyData.depth]
  | .str s, n, h => by simp only [okD] at h; simp [D.pd, PyData.canLay0, PyData.depth, h]
  | .tup xs, 0, h => by simp [okD] at h
  | .fl xs, 0, h => by simp [okD] at h
  | .tup xs, n + 1, h => by
    rw [okD] at h
    have q := pdL_lay xs n h
    simp only [D.pd, PyData.canLay0, PyData.depth]
    exact ⟨q.1, by omega⟩
  | .fl xs, n + 1, h => by
    rw [okD] at h
    have q := pdL_lay xs n h
    simp only [D.pd, PyData.canLay0, PyData.depth]
    exact ⟨q.1, by omega⟩
  | .par _, n, h => by simp [okD] at h
  | .ref _, n, h => by simp [okD] at h
  | .lam _ _, n, h => by simp [okD] at h
theorem pdL_lay : ∀ (ds : List D) (n : Nat), okL n ds = true → PyData.canLayAll0 (pdL ds) = true ∧ PyData.depthAll (pdL ds) ≤ n
  | [], n, _ => by simp [pdL, PyData.canLayAll0, PyData.depthAll]
  | d :: ds, n, h => by
    rw [okL, Bool.and_eq_true] at h
    have q1 := pd_lay d n h.1
    have q2 := pdL_lay ds n h.2
    simp only [pdL, PyData.canLayAll0, PyData.depthAll, q1.1, q2.1]
    exact ⟨rfl, by omega⟩
end
mutual
theorem pd_eqv : ∀ (a b : D) (n k : Nat), okD n a = true → okD k b = true → PyData.eqv a.pd b.pd = a.eqb b
  | .non, b, _, k, _, h => by cases b <;> first | (simp [okD] at h; done) | simp [D.pd, PyData.eqv, D.eqb]
  | .bl x, b, _, k, _, h => by cases b <;> first | (simp [okD] at h; done) | simp [D.pd, PyData.eqv, D.eqb, bdec]
  | .int x, b, _, k, _, h => by cases b <;> first | (simp [okD] at h; done) | simp [D.pd, PyData.eqv, D.eqb, bdec]
  | .str x, b, _, k, _, h => by cases b <;> first | (simp [okD] at h; done) | simp [D.pd, PyData.eqv, D.eqb, bdec]
  | .par _, b, _, k, h, _ => by simp [okD] at h
  | .ref _, b, _, k, h, _ => by simp [okD] at h
  | .lam _ _, b, _, k, h, _ => by simp [okD] at h
  | .tup xs, b, 0, k, h, _ => by simp [okD] at h
  | .fl xs, b, 0, k, h, _ => by simp [okD] at h
  | .tup xs, b, n + 1, k, h, h2 => by
    cases b with
    | tup ys =>
      cases k with
      | zero => simp [okD] at h2
      | succ k =>
        rw [okD] at h h2
        simp only [D.pd, PyData.eqv, D.eqb]
        exact pdL_eqv xs ys n k h h2
    | par _ => simp [okD] at h2
    | ref _ => simp [okD] at h2
    | lam _ _ => simp [okD] at h2
    | _ => simp [D.pd, PyData.eqv, D.eqb]
  | .fl xs, b, n + 1, k, h, h2 => by
    cases b with
    | fl ys =>
      cases k with
      | zero => simp [okD] at h2
      | succ k =>
        rw [okD] at h h2
        simp only [D.pd, PyData.eqv, D.eqb]
        exact pdL_eqv xs ys n k h h2
    | par _ => simp [okD] at h2
    | ref _ => simp [okD] at h2
    | lam _ _ => simp [okD] at h2
    | _ => simp [D.pd, PyData.eqv, D.eqb]
theorem pdL_eqv : ∀ (a b : List D) (n k : Nat), okL n a = true → okL k b = true → PyData.eqvAll (pdL a) (pdL b) = eqbL a b
  | [], [], _, _, _, _ => by simp [pdL, PyData.eqvAll, eqbL]
  | [], _ :: _, _, _, _, _ => by simp [pdL, PyData.eqvAll, eqbL]
  | _ :: _, [], _, _, _, _ => by simp [pdL, PyData.eqvAll, eqbL]
  | a :: as, b :: bs, n, k, h, h2 => by
    rw [okL, Bool.and_eq_true] at h h2
    simp only [pdL, PyData.eqvAll, eqbL, pd_eqv a b n k h.1 h2.1, pdL_eqv as bs n k h.2 h2.2]
end
theorem shaped_of {d : D} (h : okD 64 d = true) : SeqAt.shaped d.pd = true := by
  have q := pd_lay d 64 h
  unfold SeqAt.shaped
  rw [q.1, decide_eq_true q.2]
  rfl
/-- a thing as data: a list in the memory as what it holds -/
def form (x : Out) (m : Mem) : Option D := match x with
  | .v (.ref n) => (match m[n]? with | some (.lst a) => some (.fl a) | _ => none)
  | .o (.lst a) => some (.fl a)
  | .v d => some d
  | _ => none
theorem form_at {K : PySem.W.Frag} {ι : List Addr} {H H0 : Hp} {m : Mem} {x : Out} {v : V} {d : D} (rm : RM K ι H m) (ro : RO K H0 ι H x v) (h : form x m = some d) (ok : okD 64 d = true) : Dp K H v d.pd := by
  unfold form at h
  split at h
  · split at h
    · rename_i n _ ys hm
      cases h
      cases ro with
      | ref e =>
        obtain ⟨a, e1, vs, e2, r⟩ := rm.ob _ _ hm
        rw [e] at e1
        cases e1
        rw [okD] at ok
        rw [D.pd]
        exact .lst (.inl (.inl e2)) (r.dp ok)
    · cases h
  · cases h
    obtain ⟨p, e, _, _, vs, e2, r⟩ := ro
    subst e
    rw [okD] at ok
    rw [D.pd]
    exact .lst (.inl (.inl e2)) (r.dp ok)
  · cases h
    exact RV.dp ro ok
  · cases h
def eqF (x : Out) (y : Out) (m : Mem) : Option (Out × Mem) := (form x m).bind fun a => (form y m).bind fun b => if okD 64 a = true ∧ okD 64 b = true then some (.v (.bl (a.eqb b)), m) else none
def neF (x : Out) (y : Out) (m : Mem) : Option (Out × Mem) := (form x m).bind fun a => (form y m).bind fun b => if okD 64 a = true ∧ okD 64 b = true then some (.v (.bl (!a.eqb b)), m) else none
theorem eqU {K : PySem.W.Frag} : R2S K (rEqD K) eqF := by
  intro ι H H0 m x y z vx vy m' Q rm bd rx ry hf k
  obtain ⟨a, h1, hf⟩ := bind_some hf
  obtain ⟨b, h2, hf⟩ := bind_some hf
  split at hf
  · rename_i ok; cases hf
    exact ⟨_, _, form_at rm rx h1 ok.1, form_at rm ry h2 ok.2, shaped_of ok.1, shaped_of ok.2, by rw [pd_eqv a b 64 64 ok.1 ok.2]; exact k _ ι H (Le.refl _ _) rm (RV.bl _)⟩
  · cases hf
theorem neU {K : PySem.W.Frag} : R2S K (rNeD K) neF := by
  intro ι H H0 m x y z vx vy m' Q rm bd rx ry hf k
  obtain ⟨a, h1, hf⟩ := bind_some hf
  obtain ⟨b, h2, hf⟩ := bind_some hf
  split at hf
  · rename_i ok; cases hf
    exact ⟨_, _, form_at rm rx h1 ok.1, form_at rm ry h2 ok.2, shaped_of ok.1, shaped_of ok.2, by rw [pd_eqv a b 64 64 ok.1 ok.2]; exact k _ ι H (Le.refl _ _) rm (RV.bl _)⟩
  · cases hf
/-! ### is, is not: None, True, False -/
def isF (neg : Bool) (x : Out) (y : Out) (m : Mem) : Option (Out × Mem) := match y with
  | .v .non => (match x with
    | .v .non => some (.v (.bl (!neg)), m)
    | _ => some (.v (.bl neg), m))
  | .v (.bl b) => (match x with
    | .v (.bl a) => some (.v (.bl (if neg then !decide (a = b) else decide (a = b))), m)
    | _ => none)
  | _ => none
theorem op_isU {X : Cx} : OpR X (compareOp .Is) (fun x y H Q => (y = .non ∧ Q (.bl (decide (x = .non))) H) ∨ rIsB x y H Q) := op_isN.or op_isBl
theorem op_isNU {X : Cx} : OpR X (compareOp .IsNot) (fun x y H Q => (y = .non ∧ Q (.bl (!decide (x = .non))) H) ∨ rNotB x y H Q) := op_notN.or op_notBl
theorem ro_non {K : PySem.W.Frag} {ι : List Addr} {H H0 : Hp} {x : Out} {v : V} (ro : RO K H0 ι H x v) (h : x ≠ .v .non) : v ≠ .non := by
  intro e; subst e
  cases x with
  | v d => cases ro; exact h rfl
  | o b => obtain ⟨p, e, _⟩ := ro; cases e
theorem isU {K : PySem.W.Frag} : R2S K (fun x y H Q => (y = .non ∧ Q (.bl (decide (x = .non))) H) ∨ rIsB x y H Q) (isF false) := by
  intro ι H H0 m x y z vx vy m' Q rm bd rx ry hf k
  unfold isF at hf
  split at hf
  · cases ry
    split at hf
    · cases rx; cases hf
      exact .inl ⟨rfl, by simpa using k _ ι H (Le.refl _ _) rm (RV.bl _)⟩
    · rename_i hn; cases hf
      refine .inl ⟨rfl, ?_⟩
      rw [decide_eq_false (ro_non rx fun e => hn e)]
      exact k _ ι H (Le.refl _ _) rm (RV.bl _)
  · cases ry
    split at hf
    · cases rx; cases hf
      exact .inr ⟨_, _, rfl, rfl, k _ ι H (Le.refl _ _) rm (RV.bl _)⟩
    · cases hf
  · cases hf
theorem isNU {K : PySem.W.Frag} : R2S K (fun x y H Q => (y = .non ∧ Q (.bl (!decide (x = .non))) H) ∨ rNotB x y H Q) (isF true) := by
  intro ι H H0 m x y z vx vy m' Q rm bd rx ry hf k
  unfold isF at hf
  split at hf
  · cases ry
    split at hf
    · cases rx; cases hf
      exact .inl ⟨rfl, by simpa using k _ ι H (Le.refl _ _) rm (RV.bl _)⟩
    · rename_i hn; cases hf
      refine .inl ⟨rfl, ?_⟩
      rw [decide_eq_false (ro_non rx fun e => hn e)]
      exact k _ ι H (Le.refl _ _) rm (RV.bl _)
  · cases ry
    split at hf
    · cases rx; cases hf
      exact .inr ⟨_, _, rfl, rfl, k _ ι H (Le.refl _ _) rm (RV.bl _)⟩
    · cases hf
  · cases hf
@[simp] theorem add_int (i j : Int) (m : Mem) : addF (.v (.int i)) (.v (.int j)) m = some (.v (.int (i + j)), m) := rfl
@[simp] theorem sub_int (i j : Int) (m : Mem) : subF (.v (.int i)) (.v (.int j)) m = some (.v (.int (i - j)), m) := rfl
@[simp] theorem mod_int (i j : Int) (m : Mem) : modF (.v (.int i)) (.v (.int j)) m = if 0 < j then some (.v (.int (i % j)), m) else none := rfl
@[simp] theorem div_int (i j : Int) (m : Mem) : divF (.v (.int i)) (.v (.int j)) m = if divOk j then some (.v (.int (i / j)), m) else none := rfl
@[simp] theorem mul_int (i j : Int) (m : Mem) : mulF (.v (.int i)) (.v (.int j)) m = if mulOk i j then some (.v (.int (i * j)), m) else none := rfl
@[simp] theorem pow_30 (m : Mem) : powF (.v (.int 10)) (.v (.int 30)) m = some (.v (.int 1000000000000000000000000000000), m) := by
  simp only [powF]; rw [if_pos (show powOk _ _ from ⟨by decide, by decide, by decide⟩)]; rfl
@[simp] theorem pow_18 (m : Mem) : powF (.v (.int 10)) (.v (.int 18)) m = some (.v (.int 1000000000000000000), m) := by
  simp only [powF]; rw [if_pos (show powOk _ _ from ⟨by decide, by decide, by decide⟩)]; rfl
@[simp] theorem pow_20 (m : Mem) : powF (.v (.int 10)) (.v (.int 20)) m = some (.v (.int 100000000000000000000), m) := by
  simp only [powF]; rw [if_pos (show powOk _ _ from ⟨by decide, by decide, by decide⟩)]; rfl
@[simp] theorem neg_int (i : Int) (m : Mem) : negF (.v (.int i)) m = some (.v (.int (-i)), m) := rfl
@[simp] theorem cmp_int (p : Int → Int → Bool) (i j : Int) (m : Mem) : cmpF p (.v (.int i)) (.v (.int j)) m = some (.v (.bl (p i j)), m) := rfl
@[simp] theorem is_bl (n a b : Bool) (m : Mem) : isF n (.v (.bl a)) (.v (.bl b)) m = some (.v (.bl (if n then !decide (a = b) else decide (a = b))), m) := rfl
@[simp] theorem is_nn (n : Bool) (m : Mem) : isF n (.v .non) (.v .non) m = some (.v (.bl (!n)), m) := rfl
@[simp] theorem is_in (n : Bool) (i : Int) (m : Mem) : isF n (.v (.int i)) (.v .non) m = some (.v (.bl n), m) := rfl
@[simp] theorem is_tn (n : Bool) (i : List D) (m : Mem) : isF n (.v (.tup i)) (.v .non) m = some (.v (.bl n), m) := rfl
@[simp] theorem is_sn (n : Bool) (i : Str) (m : Mem) : isF n (.v (.str i)) (.v .non) m = some (.v (.bl n), m) := rfl
end Q
namespace Q
open PySem L2

theorem pe_or2 {X : Cx} {e : Expr} {t u : TE} (h : PE X e t) (h2 : PE X e u) : PE X e (fun σ H Q => t σ H Q ∨ u σ H Q) := ⟨fun pins s σ H Q I q => q.elim (h.run pins s σ H Q I) (h2.run pins s σ H Q I)⟩
theorem pi_or2 {X : Cx} {tg e : Expr} {t u : TI} (h : PI X tg e t) (h2 : PI X tg e u) : PI X tg e (fun σ H Q => t σ H Q ∨ u σ H Q) := ⟨fun pins s σ H Q I q => q.elim (h.run pins s σ H Q I) (h2.run pins s σ H Q I)⟩
theorem ps_or2 {X : Cx} {e : Stmt} {t u : TS} (h : PS X e t) (h2 : PS X e u) : PS X e (fun D σ H => t D σ H ∨ u D σ H) := ⟨fun pins s σ H D I q => q.elim (h.run pins s σ H D I) (h2.run pins s σ H D I)⟩

/-! ### items -/
noncomputable def ixF (x : Out) (y : Out) (m : Mem) : Option (Out × Mem) := match y with
  | .v (.int i) => (match x with
    | .v (.str z) => if fits z.length then (atI z.cps.toList i).map fun c => (.v (.str ⟨#[c]⟩), m) else none
    | x => (seqOf x m).bind fun xs => (atI xs i).map fun d => (.v d, m))
  | _ => none
theorem RVs.atI {K : PySem.W.Frag} {ι : List Addr} {H : Hp} {ds : List D} {vs : List V} {i : Int} {d : D} (r : RVs K ι H ds vs) (h : L2.atI ds i = some d) : ∃ v, L2.atI vs i = some v ∧ RV K ι H d v := by
  unfold L2.atI at h ⊢
  rw [← r.length]
  obtain ⟨j, e, h⟩ := bind_some h
  obtain ⟨v, e1, e2⟩ := r.get h
  exact ⟨v, by rw [e]; exact e1, e2⟩
theorem ixU {K : PySem.W.Frag} : R2S K (rIx K) ixF := by
  intro ι H H0 m x y z vx vy m' Q rm bd rx ry hf k
  unfold ixF at hf
  split at hf
  · cases ry
    split at hf
    · split at hf
      · rename_i hl
        obtain ⟨c, h1, h2⟩ := Option.map_eq_some_iff.mp hf
        cases h2; cases rx
        exact .inr (.inr ⟨_, _, c, rfl, rfl, hl, h1, k _ ι H (Le.refl _ _) rm (RV.str _)⟩)
      · cases hf
    · obtain ⟨xs, h1, hf⟩ := bind_some hf
      obtain ⟨d, h2, h3⟩ := Option.map_eq_some_iff.mp hf
      cases h3
      obtain ⟨a, vs, rfl, hs, r⟩ := seq_at rm rx h1
      obtain ⟨v, e1, e2⟩ := r.atI h2
      rcases hs with hs | hs
      · exact .inl ⟨_, _, _, _, rfl, rfl, hs, e1, k _ ι H (Le.refl _ _) rm e2⟩
      · exact .inr (.inl ⟨_, _, _, _, rfl, rfl, hs, e1, k _ ι H (Le.refl _ _) rm e2⟩)
  · cases hf
/-! ### slices -/
abbrev O := Env → Mem → Option (Option Int × Mem)
@[simp] def oNone (_ : Env) (m : Mem) : Option (Option Int × Mem) := some (none, m)
@[simp] def oSome (e : E) (ρ : Env) (m : Mem) : Option (Option Int × Mem) := (e ρ m).bind fun x => match x.1 with | .v (.int i) => some (some i, x.2) | _ => none
def tO (K : PySem.W.Frag) (f : O) : TO := fun σ H Q => ∃ ι ρ m r m', RS K ι H σ ρ ∧ RM K ι H m ∧ f ρ m = some (r, m') ∧ ∀ ι' H', Le ι H ι' H' → RM K ι' H' m' → Q r H'
theorem so_none {X : Cx} : PO X none (tO X.K oNone) := ⟨fun pins s σ H Q I h => by
  obtain ⟨ι, ρ, m, r, m', rs, rm, hf, k⟩ := h
  cases hf
  exact po_none.run pins s σ H Q I (k ι H (Le.refl _ _) rm)⟩
theorem so_some {X : Cx} {e : Expr} {fa : E} (h : SE X e fa) : PO X (some e) (tO X.K (oSome fa)) := ⟨fun pins s σ H Q I hh => by
  obtain ⟨ι, ρ, m, r, m', rs, rm, hf, k⟩ := hh
  obtain ⟨x, h1, hf⟩ := bind_some hf
  refine (po_some h).run pins s σ H Q I ⟨ι, ρ, m, x.1, x.2, rs, rm, h1, fun v ι1 H1 l1 rm1 ro1 bd1 => ?_⟩
  split at hf
  · rename_i e1; rw [e1] at ro1; cases ro1; cases hf
    exact ⟨_, rfl, k ι1 H1 l1 rm1⟩
  · cases hf⟩
def cutD (xs : List D) (lo hi : Option Int) : List D := (xs.drop (HT.sIx xs.length 0 lo)).take (HT.sIx xs.length xs.length hi - HT.sIx xs.length 0 lo)
theorem RVs.cut {K : PySem.W.Frag} {ι : List Addr} {H : Hp} {ds : List D} {vs : List V} {lo hi : Option Int} (r : RVs K ι H ds vs) : RVs K ι H (cutD ds lo hi) (cutV vs lo hi) := by
  unfold cutD cutV
  rw [r.length]
  exact (r.drop _).take _
noncomputable def slF (x : Out) (lo hi : Option Int) (m : Mem) : Option (Out × Mem) := match x with
  | .v (.str z) => if fits z.length then some (.v (.str (cutS z lo hi)), m) else none
  | .v (.tup xs) => some (.v (.tup (cutD xs lo hi)), m)
  | x => (seqOf x m).bind fun xs => some (.o (.lst (cutD xs lo hi)), m)
@[simp] noncomputable def eSl (a : E) (lo hi : O) (ρ : Env) (m : Mem) : Option (Out × Mem) := (a ρ m).bind fun x => (lo ρ x.2).bind fun l => (hi ρ l.2).bind fun h => slF x.1 l.1 h.1 h.2
theorem sq_cases {K : PySem.W.Frag} {ι : List Addr} {H H0 : Hp} {m : Mem} {x : Out} {v : V} {xs : List D} (rm : RM K ι H m) (ro : RO K H0 ι H x v) (h : seqOf x m = some xs) (hx : ∀ ys, x ≠ .v (.tup ys)) : ∃ a vs, v = .ref a ∧ SqL K H a vs ∧ RVs K ι H xs vs := by
  unfold seqOf at h
  split at h
  · rename_i ys; exact absurd rfl (hx ys)
  · cases h
    cases ro with
    | fl hs r => exact ⟨_, _, rfl, hs.sq, r⟩
  · split at h
    · rename_i n _ ys hm
      cases h
      cases ro with
      | ref e =>
        obtain ⟨a, e1, vs, e2, r⟩ := rm.ob _ _ hm
        rw [e] at e1
        cases e1
        exact ⟨_, vs, rfl, .inl (.inl e2), r⟩
    · cases h
  · cases h
    obtain ⟨p, e, _, _, vs, e2, r⟩ := ro
    exact ⟨p, vs, e, .inl (.inl e2), r⟩
  · cases h
theorem se_slice {X : Cx} {e : Expr} {a : Expr} {lo hi : Option Expr} {pos p2 : Pos} {fa : E} {fl fh : O} (ha : SE X a fa) (hl : PO X lo (tO X.K fl)) (hh : PO X hi (tO X.K fh))
    (h0 : PE X e (tSl (fun x lo hi H Q => (rSlL X.K x lo hi H Q ∨ rSlN X.K x lo hi H Q) ∨ rSlS x lo hi H Q) (tE X.K fa) (tO X.K fl) (tO X.K fh))) : SE X e (eSl fa fl fh) := pe_imp h0 fun σ H Q ⟨ι, ρ, m, z, m', rs, rm, hf, k⟩ => by
  obtain ⟨x, h1, hf⟩ := bind_some hf
  obtain ⟨l, h2, hf⟩ := bind_some hf
  obtain ⟨h, h3, hf⟩ := bind_some hf
  refine ⟨ι, ρ, m, x.1, x.2, rs, rm, h1, fun v ι1 H1 l1 rm1 ro1 bd1 => ?_⟩
  refine ⟨ι1, ρ, x.2, l.1, l.2, rs.mono l1, rm1, h2, fun ι2 H2 l2 rm2 => ?_⟩
  refine ⟨ι2, ρ, l.2, h.1, h.2, (rs.mono l1).mono l2, rm2, h3, fun ι3 H3 l3 rm3 => ?_⟩
  have l03 := l1.tr rm1 (l2.tr rm2 l3)
  have ro3 := (ro1.mono l2).mono l3
  unfold slF at hf
  split at hf
  · rename_i e1
    rw [e1] at ro3
    split at hf
    · rename_i hz; cases hf; cases ro3
      exact .inr ⟨_, rfl, hz, fun bd => k _ ι3 H3 l03 rm3 (RV.str _) bd⟩
    · cases hf
  · rename_i e1
    rw [e1] at ro3
    cases hf
    cases ro3 with
    | tup hs r =>
      refine .inl (.inr ⟨_, _, rfl, hs.sq, fun hw bd => ?_, fun _ p o hp ho bd => ?_⟩)
      · refine k _ ι3 H3 l03 rm3 (RV.tup hs ?_) bd
        have e2 := r.cut (lo := l.1) (hi := h.1)
        unfold cutV at e2
        rw [hw.1, hw.2, List.drop_zero, Nat.sub_zero, List.take_length] at e2
        exact e2
      · exact k _ ι3 _ (l03.tr rm3 (Le.newAt hp)) (rm3.newAt hp) (new_tup hp ho r.cut) bd
  · rename_i y hy1 hy2
    obtain ⟨xs, h4, hf⟩ := bind_some hf
    cases hf
    obtain ⟨a, vs, rfl, hs, r⟩ := sq_cases rm3 ro3 h4 hy2
    exact .inl (.inl ⟨_, _, rfl, hs, fun p hp bd => k _ ι3 _ (l03.tr rm3 (Le.newAt hp)) (rm3.newAt hp) ((new_lst rm3 hp r.cut).from l03 rm3) bd⟩)
/-! ### built-in functions of one and two things -/
section
variable {X : Cx} {e a b : Expr} {fa fb : E} {f : F1} {f2 : F2} {r : List V → Hp → VK → Prop}
theorem se_b1 (h0 : PE X e (tCB r (tCons (tE X.K fa) tNil))) (hr : R1S X.K (fun v H Q => r [v] H Q) f) : SE X e (eUn f fa) := pe_imp h0 fun σ H Q ⟨ι, ρ, m, z, m', rs, rm, hf, k⟩ => by
  obtain ⟨x, h1, hf⟩ := bind_some hf
  refine ⟨ι, ρ, m, x.1, x.2, rs, rm, h1, fun v ι1 H1 l1 rm1 ro1 bd1 => ?_⟩
  exact hr ι1 H1 H x.2 x.1 z v m' _ rm1 bd1 ro1 hf fun w ι3 H3 l3 rm3 ro3 bd3 => k w ι3 H3 (l1.tr rm1 l3) rm3 (ro3.from l1 rm1) bd3
theorem se_b2 (h0 : PE X e (tCB r (tCons (tE X.K fa) (tCons (tE X.K fb) tNil)))) (hr : R2S X.K (fun v u H Q => r [v, u] H Q) f2) : SE X e (eBin f2 fa fb) := pe_imp h0 fun σ H Q ⟨ι, ρ, m, z, m', rs, rm, hf, k⟩ => by
  obtain ⟨x, h1, hf⟩ := bind_some hf
  obtain ⟨y, h2, hf⟩ := bind_some hf
  refine ⟨ι, ρ, m, x.1, x.2, rs, rm, h1, fun v ι1 H1 l1 rm1 ro1 bd1 => ?_⟩
  refine ⟨ι1, ρ, x.2, y.1, y.2, rs.mono l1, rm1, h2, fun u ι2 H2 l2 rm2 ro2 bd2 => ?_⟩
  exact hr ι2 H2 H y.2 x.1 y.1 z v u m' _ rm2 bd2 (ro1.mono l2) (ro2.from l1 rm1) hf fun w ι3 H3 l3 rm3 ro3 bd3 => k w ι3 H3 (l1.tr rm1 (l2.tr rm2 l3)) rm3 (ro3.from (l1.tr rm1 l2) rm2) bd3
end
noncomputable def lenF (x : Out) (m : Mem) : Option (Out × Mem) := match x with
  | .v (.str z) => if fits z.length then some (.v (.int z.length), m) else none
  | x => (seqOf x m).bind fun xs => some (.v (.int xs.length), m)
def rLenU (K : PySem.W.Frag) : List V → Hp → VK → Prop := fun xs H Q => (∃ p ys, xs = [.ref p] ∧ (SqL K H p ys ∨ SqT K H p ys) ∧ Q (.int ys.length) H) ∨ (∃ z, xs = [.str z] ∧ z.length ≤ sizeLine ∧ Q (.int z.length) H)
theorem call_lenU {X : Cx} : CallR X (.builtin "len") (rLenU X.K) := call_len_seq.or call_len_str
theorem lenU {K : PySem.W.Frag} : R1S K (fun v H Q => rLenU K [v] H Q) lenF := by
  intro ι H H0 m x z vx m' Q rm bd rx hf k
  unfold lenF at hf
  split at hf
  · split at hf
    · rename_i hl; cases hf; cases rx
      exact .inr ⟨_, rfl, hl, k _ ι H (Le.refl _ _) rm (RV.int _)⟩
    · cases hf
  · obtain ⟨xs, h1, hf⟩ := bind_some hf
    cases hf
    obtain ⟨a, vs, rfl, hs, r⟩ := seq_at rm rx h1
    rw [r.length] at k
    exact .inl ⟨_, _, rfl, hs, k _ ι H (Le.refl _ _) rm (RV.int _)⟩
def absF (x : Out) (m : Mem) : Option (Out × Mem) := match x with
  | .v (.int i) => some (.v (.int (if i < 0 then -i else i)), m)
  | _ => none
theorem absU {K : PySem.W.Frag} : R1S K (fun v H Q => (fun xs H (Q : VK) => ∃ i, xs = [V.int i] ∧ Q (.int (if i < 0 then -i else i)) H) [v] H Q) absF := by
  intro ι H H0 m x z vx m' Q rm bd rx hf k
  unfold absF at hf
  split at hf
  · cases hf; cases rx
    exact ⟨_, rfl, k _ ι H (Le.refl _ _) rm (RV.int _)⟩
  · cases hf
def intF (x : Out) (m : Mem) : Option (Out × Mem) := match x with
  | .v (.int i) => some (.v (.int i), m)
  | .v (.bl b) => some (.v (.int (if b then 1 else 0)), m)
  | _ => none
theorem intU {K : PySem.W.Frag} : R1S K (fun v H Q => (fun xs H (Q : VK) => (∃ i, xs = [V.int i] ∧ Q (.int i) H) ∨ ∃ k, xs = [V.bl k] ∧ Q (.int (if k then 1 else 0)) H) [v] H Q) intF := by
  intro ι H H0 m x z vx m' Q rm bd rx hf k
  unfold intF at hf
  split at hf
  · cases hf; cases rx
    exact .inl ⟨_, rfl, k _ ι H (Le.refl _ _) rm (RV.int _)⟩
  · cases hf; cases rx
    exact .inr ⟨_, rfl, k _ ι H (Le.refl _ _) rm (RV.int _)⟩
  · cases hf
def listF (x : Out) (m : Mem) : Option (Out × Mem) := (seqOf x m).bind fun xs => some (.o (.lst xs), m)
theorem listU {K : PySem.W.Frag} : R1S K (fun v H Q => (fun xs H (Q : VK) => ∃ p ys, xs = [V.ref p] ∧ (SqL K H p ys ∨ SqT K H p ys) ∧ ∀ l, H l = none → Q (.ref l) (upd H l (.lst ys))) [v] H Q) listF := by
  intro ι H H0 m x z vx m' Q rm bd rx hf k
  obtain ⟨xs, h1, hf⟩ := bind_some hf
  cases hf
  obtain ⟨a, vs, rfl, hs, r⟩ := seq_at rm rx h1
  exact ⟨_, _, rfl, hs, fun p hp => k _ ι _ (Le.newAt hp) (rm.newAt hp) (new_lst rm hp r)⟩
def tupF (x : Out) (m : Mem) : Option (Out × Mem) := (seqOf x m).bind fun xs => some (.v (.tup xs), m)
theorem tupU {K : PySem.W.Frag} : R1S K (fun v H Q => (fun xs H (Q : VK) => ∃ p ys, xs = [V.ref p] ∧ ((SqL K H p ys ∧ TpN H ys Q) ∨ (SqT K H p ys ∧ Q (.ref p) H))) [v] H Q) tupF := by
  intro ι H H0 m x z vx m' Q rm bd rx hf k
  obtain ⟨xs, h1, hf⟩ := bind_some hf
  cases hf
  rcases seq_at2 rm rx h1 with ⟨a, vs, rfl, hs, r⟩ | ⟨a, vs, rfl, hs, r⟩
  · exact ⟨_, _, rfl, .inl ⟨hs, fun p o hp ho => k _ ι _ (Le.newAt hp) (rm.newAt hp) (new_tup hp ho r)⟩⟩
  · exact ⟨_, _, rfl, .inr ⟨hs.sq, k _ ι H (Le.refl _ _) rm (RV.tup hs r)⟩⟩
/-- a list of truths -/
def blsOf : List D → Option (List Bool)
  | [] => some []
  | .bl b :: r => (blsOf r).map (b :: ·)
  | _ => none
theorem blsOf_eq : ∀ {xs : List D} {bs : List Bool}, blsOf xs = some bs → xs = bs.map D.bl
  | [], bs, h => by cases h; rfl
  | d :: r, bs, h => by
    cases d with
    | bl b =>
      rw [blsOf] at h
      obtain ⟨cs, h1, h2⟩ := Option.map_eq_some_iff.mp h
      rw [← h2, blsOf_eq h1]; rfl
    | _ => simp [blsOf] at h
theorem blsOf_map (bs : List Bool) : blsOf (bs.map D.bl) = some bs := by
  induction bs with
  | nil => rfl
  | cons b r ih => simp [blsOf, ih]
def allF (x : Out) (m : Mem) : Option (Out × Mem) := (lstOf x m).bind fun xs => (blsOf xs).bind fun bs => some (.v (.bl (bs.all id)), m)
def anyF (x : Out) (m : Mem) : Option (Out × Mem) := (lstOf x m).bind fun xs => (blsOf xs).bind fun bs => some (.v (.bl (bs.any id)), m)
theorem allU {K : PySem.W.Frag} : R1S K (fun v H Q => rAll K [v] H Q) allF := by
  intro ι H H0 m x z vx m' Q rm bd rx hf k
  obtain ⟨xs, h1, hf⟩ := bind_some hf
  obtain ⟨bs, h2, hf⟩ := bind_some hf
  cases hf
  obtain ⟨a, vs, rfl, hs, r⟩ := lst_at rm rx h1
  rw [blsOf_eq h2] at r
  rw [r.of_bls] at hs
  exact ⟨_, bs, rfl, .inl (.inl hs), k _ ι H (Le.refl _ _) rm (RV.bl _)⟩
theorem anyU {K : PySem.W.Frag} : R1S K (fun v H Q => rAny K [v] H Q) anyF := by
  intro ι H H0 m x z vx m' Q rm bd rx hf k
  obtain ⟨xs, h1, hf⟩ := bind_some hf
  obtain ⟨bs, h2, hf⟩ := bind_some hf
  cases hf
  obtain ⟨a, vs, rfl, hs, r⟩ := lst_at rm rx h1
  rw [blsOf_eq h2] at r
  rw [r.of_bls] at hs
  exact ⟨_, bs, rfl, .inl (.inl hs), k _ ι H (Le.refl _ _) rm (RV.bl _)⟩
/-! ### isinstance -/
inductive Ty where
  | int | bool | tuple | str | list | dict
def Ty.nm : Ty → String
  | .int => "int" | .bool => "bool" | .tuple => "tuple" | .str => "str" | .list => "list" | .dict => "dict"
/-- the type's name of a thing -/
def tyOf (x : Out) (m : Mem) : Option String := match x with
  | .v .non => some "NoneType"
  | .v (.bl _) => some "bool"
  | .v (.int _) => some "int"
  | .v (.str _) => some "str"
  | .v (.tup _) => some "tuple"
  | .v (.par _) => none
  | .v (.fl _) => some "list"
  | .v (.ref n) => (match m[n]? with | some (.lst _) => some "list" | some (.dct _) => some "dict" | _ => none)
  | .o (.lst _) => some "list"
  | .o (.dct _) => some "dict"
  | .o (.dcr _) => none
  | .o (.tab _) => none
  | .v (.lam _ _) => none
def isiB : Ty → String → Bool
  | .int, "int" => true
  | .int, "bool" => true
  | .bool, "bool" => true
  | .tuple, "tuple" => true
  | .str, "str" => true
  | .list, "list" => true
  | .dict, "dict" => true
  | _, _ => false
def isiF (t : Ty) (x : Out) (m : Mem) : Option (Out × Mem) := (tyOf x m).bind fun s => some (.v (.bl (isiB t s)), m)
theorem tyOf_at {K : PySem.W.Frag} {ι : List Addr} {H H0 : Hp} {m : Mem} {x : Out} {v : V} {s : String} (rm : RM K ι H m) (ro : RO K H0 ι H x v) (h : tyOf x m = some s) : TyX K H v (.type s) ∧ (s = "NoneType" ∨ s = "bool" ∨ s = "int" ∨ s = "str" ∨ s = "tuple" ∨ s = "list" ∨ s = "dict") := by
  have tupT : ∀ {a : Addr} {vs : List V}, SqT K H a vs → TyX K H (.ref a) (.type "tuple") := fun {a vs} h => by
    rcases h with (h | ⟨o, h⟩) | ⟨o, its, n, h1, h2, _⟩
    · exact .base (.tup h)
    · exact .fTuple h
    · exact .kTuple h1 h2
  have flT : ∀ {a : Addr} {vs : List V}, FlAt K H a vs → TyX K H (.ref a) (.type "list") := fun {a vs} h => by
    rcases h with ⟨o, h⟩ | ⟨o, its, n, h1, h2, _⟩
    · exact .base (.frz h)
    · exact .kList h1 h2
  have rbL : ∀ {xs : List D} {a : Addr}, RB K ι H (.lst xs) a → TyX K H (.ref a) (.type "list") := fun {b a} h => by
    obtain ⟨vs, e, _⟩ := h; exact .base (.lst e)
  have rbT : ∀ {xs : List (D × D)} {a : Addr}, RB K ι H (.dct xs) a → TyX K H (.ref a) (.type "dict") := fun {b a} h => by
    obtain ⟨vs, e, _⟩ := h; exact .base (.dK e)
  unfold tyOf at h
  split at h
  · cases h; cases ro; exact ⟨.base .non, by simp⟩
  · cases h; cases ro; exact ⟨.base (.bl _), by simp⟩
  · cases h; cases ro; exact ⟨.base (.int _), by simp⟩
  · cases h; cases ro; exact ⟨.base (.str _), by simp⟩
  · cases h
    cases ro with
    | tup hs r => exact ⟨tupT hs.sq, by simp⟩
  · cases h
  · cases h
    cases ro with
    | fl hs r => exact ⟨flT hs, by simp⟩
  · cases ro with
    | ref e =>
      split at h
      · rename_i hm; cases h
        obtain ⟨a, e1, rb⟩ := rm.ob _ _ hm
        rw [e] at e1; cases e1
        exact ⟨rbL rb, by simp⟩
      · rename_i hm; cases h
        obtain ⟨a, e1, rb⟩ := rm.ob _ _ hm
        rw [e] at e1; cases e1
        exact ⟨rbT rb, by simp⟩
      · cases h
  · cases h
    obtain ⟨p, e, _, _, rb⟩ := ro
    subst e
    exact ⟨rbL rb, by simp⟩
  · cases h
    obtain ⟨p, e, _, _, rb⟩ := ro
    subst e
    exact ⟨rbT rb, by simp⟩
  · cases h
  · cases h
  · cases h
theorem kit_all (K : PySem.W.Frag) (t : Ty) {s : String} (h : s = "NoneType" ∨ s = "bool" ∨ s = "int" ∨ s = "str" ∨ s = "tuple" ∨ s = "list" ∨ s = "dict") : PySem.W.kitOne K (.type s) (.type t.nm) = some (isiB t s) := by
  rcases h with h | h | h | h | h | h | h <;> subst h <;> cases t <;> exact kit_ty (by decide +kernel)
theorem se_isi {X : Cx} {e : Expr} {fa : E} {t : Ty} (h0 : PE X e (tCB (rIsi X.K) (tCons (tE X.K fa) (tCons (tC (.ty t.nm)) tNil)))) : SE X e (eUn (isiF t) fa) := pe_imp h0 fun σ H Q ⟨ι, ρ, m, z, m', rs, rm, hf, k⟩ => by
  obtain ⟨x, h1, hf⟩ := bind_some hf
  obtain ⟨s, h2, hf⟩ := bind_some hf
  cases hf
  refine ⟨ι, ρ, m, x.1, x.2, rs, rm, h1, fun v ι1 H1 l1 rm1 ro1 bd1 => ?_⟩
  obtain ⟨ty, hs⟩ := tyOf_at rm1 ro1 h2
  exact ⟨v, .ty t.nm, _, _, _, rfl, .ty _, ty, kit_all X.K t hs, fun bd => k _ ι1 H1 l1 rm1 (RV.bl _) bd⟩
@[simp] theorem abs_int (i : Int) (m : Mem) : absF (.v (.int i)) m = some (.v (.int (if i < 0 then -i else i)), m) := rfl
@[simp] theorem int_int (i : Int) (m : Mem) : intF (.v (.int i)) m = some (.v (.int i), m) := rfl
@[simp] theorem int_bl (b : Bool) (m : Mem) : intF (.v (.bl b)) m = some (.v (.int (if b then 1 else 0)), m) := rfl
end Q
namespace Q
open PySem L2

/-! ### what is walked -/
def signs (z : Str) : List D := z.cps.toList.map fun c => D.str ⟨#[c]⟩
noncomputable def srcOf (x : Out) (m : Mem) : Option Src := match x with
  | .v (.str z) => if fits z.length then some ⟨signs z, []⟩ else none
  | .v (.tup a) => some ⟨a, []⟩
  | .v (.fl a) => some ⟨a, []⟩
  | .v (.ref n) => (match m[n]? with | some (.lst a) => some ⟨a, [(n, .lst a)]⟩ | _ => none)
  | .o (.lst a) => some ⟨a, []⟩
  | _ => none
@[simp] noncomputable def iE (a : E) (ρ : Env) (m : Mem) : Option (Src × Mem) := (a ρ m).bind fun x => (srcOf x.1 x.2).bind fun s => some (s, x.2)
def upto (lo : Int) (n : Nat) : List D := (List.range n).map fun (i : Nat) => D.int (lo + (i : Int))
def rgOk (j : Int) : Prop := j ≤ 16777216 ∧ -(2 ^ 62) ≤ j
noncomputable instance (j : Int) : Decidable (rgOk j) := Classical.propDecidable _
@[simp] theorem rgOk_of {j : Int} (h : -1000000000 ≤ j) (h2 : j ≤ 16777216) : rgOk j := ⟨h2, by omega⟩
@[simp] noncomputable def iRg1 (a : E) (ρ : Env) (m : Mem) : Option (Src × Mem) := (a ρ m).bind fun x => match x.1 with
  | .v (.int j) => if rgOk j then some (⟨upto 0 j.toNat, []⟩, x.2) else none
  | _ => none
def rg2Ok (i j : Int) : Prop := j - i ≤ 16777216 ∧ -(2 ^ 62) ≤ i ∧ i < 2 ^ 62 ∧ -(2 ^ 62) ≤ j ∧ j < 2 ^ 62
noncomputable instance (i j : Int) : Decidable (rg2Ok i j) := Classical.propDecidable _
@[simp] theorem rg2Ok_of {i j : Int} (h : -1000000 ≤ i) (h1 : i ≤ 1000000) (h2 : -1000000 ≤ j) (h3 : j ≤ 1000000) : rg2Ok i j := ⟨by omega, by omega, by omega, by omega, by omega⟩
@[simp] noncomputable def iRg2 (a b : E) (ρ : Env) (m : Mem) : Option (Src × Mem) := (a ρ m).bind fun x => (b ρ x.2).bind fun y => match x.1, y.1 with
  | .v (.int i), .v (.int j) => if rg2Ok i j then some (⟨upto i (j - i).toNat, []⟩, y.2) else none
  | _, _ => none
section
variable {K : PySem.W.Frag} {ι : List Addr} {H : Hp} {m : Mem}
theorem upto_get {lo : Int} {n i : Nat} {d : D} (h : (upto lo n)[i]? = some d) : i < n ∧ d = .int (lo + i) := by
  unfold upto at h
  rw [List.getElem?_map] at h
  cases q : (List.range n)[i]? with
  | none => rw [q] at h; cases h
  | some j =>
    rw [q] at h
    have e := List.getElem?_eq_some_iff.mp q
    have h1 := e.1
    have h2 := e.2
    rw [List.getElem_range] at h2
    rw [List.length_range] at h1
    subst h2
    cases h
    exact ⟨h1, rfl⟩
theorem upto_len (lo : Int) (n : Nat) : (upto lo n).length = n := by simp [upto]
theorem walks_range (lo : Int) (n : Nat) : Walks K (Itr lo n) ⟨upto lo n, []⟩ ι H := by
  intro ι2 H2 m2 i l rm hc
  refine ⟨fun h => by rw [upto_len] at h; exact h, fun d hd => ?_⟩
  obtain ⟨h1, rfl⟩ := upto_get hd
  refine ⟨h1, fun x H3 hy => ?_⟩
  obtain ⟨rfl, rfl⟩ := hy
  exact ⟨Le.refl _ _, rm, .int _⟩
theorem walks_str (z : Str) : Walks K (Its z) ⟨signs z, []⟩ ι H := by
  intro ι2 H2 m2 i l rm hc
  refine ⟨fun h => by
    show z.cps.size ≤ i
    simpa [signs] using h, fun d hd => ?_⟩
  unfold signs at hd
  rw [List.getElem?_map] at hd
  cases q : z.cps.toList[i]? with
  | none => rw [q] at hd; cases hd
  | some c =>
    rw [q] at hd
    cases hd
    have hq : z.cps[i]? = some c := by rw [← Array.getElem?_toList]; exact q
    refine ⟨(Array.getElem?_eq_some_iff.mp hq).1, fun x H3 hy => ?_⟩
    obtain ⟨rfl, c', e1, rfl⟩ := hy
    rw [hq] at e1
    cases e1
    exact ⟨Le.refl _ _, rm, .str _⟩
/-- a list at a, known to hold vs wherever the lists stand -/
theorem walks_list {a : Addr} {ds : List D} {lv : List (Nat × Ob)} (h : ∀ ι2 H2 m2, Le ι H ι2 H2 → RM K ι2 H2 m2 → chk lv m2 → ∃ vs, SqL K H2 a vs ∧ RVs K ι2 H2 ds vs) : Walks K (Itl K a) ⟨ds, lv⟩ ι H := by
  intro ι2 H2 m2 i l rm hc
  obtain ⟨vs, hs, r⟩ := h ι2 H2 m2 l rm hc
  refine ⟨fun hl => ⟨vs, hs, by rw [← r.length]; exact hl⟩, fun d hd => ?_⟩
  obtain ⟨v, e1, e2⟩ := r.get hd
  refine ⟨⟨vs, v, hs, e1⟩, fun x H3 hy => ?_⟩
  obtain ⟨rfl, hy⟩ := hy
  have := hy vs hs
  rw [e1] at this
  cases this
  exact ⟨Le.refl _ _, rm, e2⟩
theorem walks_tuple {a : Addr} {vs : List V} {ds : List D} (hs : TpAt K H a vs) (r : RVs K ι H ds vs) : Walks K (Itt K a) ⟨ds, []⟩ ι H := by
  intro ι2 H2 m2 i l rm hc
  have hs2 := (l.k.rdT hs).sq
  have r2 := r.mono l
  refine ⟨fun hl => ⟨vs, hs2, by rw [← r.length]; exact hl⟩, fun d hd => ?_⟩
  obtain ⟨v, e1, e2⟩ := r2.get hd
  refine ⟨⟨vs, v, hs2, e1⟩, fun x H3 hy => ?_⟩
  obtain ⟨rfl, hy⟩ := hy
  have := hy vs hs2
  rw [e1] at this
  cases this
  exact ⟨Le.refl _ _, rm, e2⟩
end
theorem si_e {X : Cx} {tg e : Expr} {fa : E} (h : SE X e fa) : SI X tg e (iE fa) := pi_imp (pi_or2 (pi_or2 (pi_list h) (pi_tup h)) (pi_str h)) fun σ H R ⟨ι, ρ, m, s, m', rs, rm, hf, k⟩ => by
  obtain ⟨x, h1, hf⟩ := bind_some hf
  obtain ⟨s', h2, hf⟩ := bind_some hf
  cases hf
  unfold srcOf at h2
  have base : ∀ {T : TE} {P : V → Hp → Prop}, (∀ v ι1 H1, Le ι H ι1 H1 → RM X.K ι1 H1 x.2 → RO X.K H ι1 H1 x.1 v → Bnd X.K H1 → P v H1) → tE X.K fa σ H P := fun {T P} hP => ⟨ι, ρ, m, x.1, x.2, rs, rm, h1, hP⟩
  split at h2
  · rename_i e1
    split at h2
    · rename_i hz; cases h2
      refine .inr (base (T := tE X.K fa) fun v ι1 H1 l1 rm1 ro1 bd1 => ?_)
      rw [e1] at ro1; cases ro1
      exact ⟨_, rfl, fun bd => k _ ι1 H1 l1 rm1 (walks_str _) bd (by show (signs _).length ≤ _; unfold signs; rw [List.length_map, Array.length_toList]; exact hz)⟩
    · cases h2
  · rename_i e1; cases h2
    refine .inl (.inr (base (T := tE X.K fa) fun v ι1 H1 l1 rm1 ro1 bd1 => ?_))
    rw [e1] at ro1
    cases ro1 with
    | tup hs r => exact ⟨_, rfl, ⟨_, hs.sq⟩, fun bd => k _ ι1 H1 l1 rm1 (walks_tuple hs r) bd (by rw [show (_ : Src).items = _ from rfl, r.length]; exact bd _ _ (.inr hs.sq))⟩
  · rename_i e1; cases h2
    refine .inl (.inl (base (T := tE X.K fa) fun v ι1 H1 l1 rm1 ro1 bd1 => ?_))
    rw [e1] at ro1
    cases ro1 with
    | fl hs r => exact ⟨_, rfl, ⟨_, hs.sq⟩, fun bd => k _ ι1 H1 l1 rm1 (walks_list fun ι2 H2 m2 l2 rm2 _ => ⟨_, (l2.k.rdF hs).sq, r.mono l2⟩) bd (by rw [show (_ : Src).items = _ from rfl, r.length]; exact bd _ _ (.inl hs.sq))⟩
  · rename_i n e1
    split at h2
    · rename_i xs hm; cases h2
      refine .inl (.inl (base (T := tE X.K fa) fun v ι1 H1 l1 rm1 ro1 bd1 => ?_))
      rw [e1] at ro1
      cases ro1 with
      | ref e2 =>
        obtain ⟨a, e3, vs, e4, r⟩ := rm1.ob _ _ hm
        rw [e2] at e3; cases e3
        refine ⟨_, rfl, ⟨_, .inl (.inl e4)⟩, fun bd => k _ ι1 H1 l1 rm1 (walks_list fun ι2 H2 m2 l2 rm2 hc => ?_) bd (by rw [show (_ : Src).items = _ from rfl, r.length]; exact bd _ _ (.inl (.inl (.inl e4))))⟩
        have hm2 : m2[n]? = some (.lst xs) := hc (n, .lst xs) (by simp)
        obtain ⟨a', e5, vs', e6, r'⟩ := rm2.ob _ _ hm2
        rw [l2.ix e2] at e5; cases e5
        exact ⟨vs', .inl (.inl e6), r'⟩
    · cases h2
  · rename_i e1; cases h2
    refine .inl (.inl (base (T := tE X.K fa) fun v ι1 H1 l1 rm1 ro1 bd1 => ?_))
    rw [e1] at ro1
    obtain ⟨p, e2, e3, hi, vs, e4, r⟩ := ro1
    subst e2
    exact ⟨_, rfl, ⟨_, .inl (.inl e4)⟩, fun bd => k _ ι1 H1 l1 rm1 (walks_list fun ι2 H2 m2 l2 rm2 _ => ⟨_, .inl (.inl (l2.keep _ _ e4 (.inr hi))), r.mono l2⟩) bd (by rw [show (_ : Src).items = _ from rfl, r.length]; exact bd _ _ (.inl (.inl (.inl e4))))⟩
  · cases h2
theorem si_rg1 {X : Cx} {tg e : Expr} {fa : E} (h : PI X tg e (iRng1 (tCons (tE X.K fa) tNil))) : SI X tg e (iRg1 fa) := pi_imp h fun σ H R ⟨ι, ρ, m, s, m', rs, rm, hf, k⟩ => by
  obtain ⟨x, h1, hf⟩ := bind_some hf
  refine ⟨ι, ρ, m, x.1, x.2, rs, rm, h1, fun v ι1 H1 l1 rm1 ro1 bd1 => ?_⟩
  split at hf
  · rename_i j e1
    split at hf
    · rename_i hj; cases hf
      rw [e1] at ro1; cases ro1
      have hs : sizeLine = 16777216 := sizeLine_eq
      have hj1 := hj.1
      exact ⟨_, rfl, hj.2, by omega, fun bd => k _ ι1 H1 l1 rm1 (walks_range 0 _) bd (by show (upto 0 j.toNat).length ≤ _; rw [upto_len]; omega)⟩
    · cases hf
  · cases hf
theorem si_rg2 {X : Cx} {tg e : Expr} {fa fb : E} (h : PI X tg e (iRng2 (tCons (tE X.K fa) (tCons (tE X.K fb) tNil)))) : SI X tg e (iRg2 fa fb) := pi_imp h fun σ H R ⟨ι, ρ, m, s, m', rs, rm, hf, k⟩ => by
  obtain ⟨x, h1, hf⟩ := bind_some hf
  obtain ⟨y, h2, hf⟩ := bind_some hf
  refine ⟨ι, ρ, m, x.1, x.2, rs, rm, h1, fun v ι1 H1 l1 rm1 ro1 bd1 => ?_⟩
  refine ⟨ι1, ρ, x.2, y.1, y.2, rs.mono l1, rm1, h2, fun u ι2 H2 l2 rm2 ro2 bd2 => ?_⟩
  split at hf
  · rename_i i j e1 e2
    split at hf
    · rename_i hj; cases hf
      rw [e1] at ro1; cases ro1
      rw [e2] at ro2; cases ro2
      have hs : sizeLine = 16777216 := sizeLine_eq
      have hj1 := hj.1
      exact ⟨_, _, rfl, hj.2, fun bd => k _ ι2 H2 (l1.tr rm1 l2) rm2 (walks_range i _) bd (by show (upto i (j - i).toNat).length ≤ _; rw [upto_len]; omega)⟩
    · cases hf
  · cases hf
/-! ### methods of built-in types -/
def isTyB (T : String) (x : Out) (m : Mem) : Bool := match x with
  | .v (.str _) => T == "str"
  | .v (.fl _) => T == "list"
  | .v (.ref n) => (match m[n]? with | some (.lst _) => T == "list" | some (.dct _) => T == "dict" | _ => false)
  | .o (.lst _) => T == "list"
  | .o (.dct _) => T == "dict"
  | _ => false
@[simp] def eMt1 (T : String) (f : F2) (a b : E) (ρ : Env) (m : Mem) : Option (Out × Mem) := (a ρ m).bind fun x => if isTyB T x.1 x.2 = true then (b ρ x.2).bind fun y => f x.1 y.1 y.2 else none
@[simp] def eMt0 (T : String) (f : F1) (a : E) (ρ : Env) (m : Mem) : Option (Out × Mem) := (a ρ m).bind fun x => if isTyB T x.1 x.2 = true then f x.1 x.2 else none
theorem tyV_of {K : PySem.W.Frag} {ι : List Addr} {H H0 : Hp} {m : Mem} {x : Out} {v : V} {T : String} (rm : RM K ι H m) (ro : RO K H0 ι H x v) (h : isTyB T x m = true) : tyV K T v H := by
  have rbL : ∀ {xs : List D} {a : Addr}, RB K ι H (.lst xs) a → (T == "list") = true → tyV K T (.ref a) H := fun {b a} h ht => by
    obtain ⟨vs, e, _⟩ := h; exact .inl ⟨by simpa using ht, vs, .inl (.inl e)⟩
  have rbT : ∀ {xs : List (D × D)} {a : Addr}, RB K ι H (.dct xs) a → (T == "dict") = true → tyV K T (.ref a) H := fun {b a} h ht => by
    obtain ⟨vs, e, _⟩ := h; exact .inr (.inr (.inl ⟨by simpa using ht, .inl ⟨_, e⟩⟩))
  unfold isTyB at h
  split at h
  · cases ro; show T = "str"; simpa using h
  · cases ro with
    | fl hs r => exact .inl ⟨by simpa using h, _, hs.sq⟩
  · cases ro with
    | ref e =>
      split at h
      · rename_i hm
        obtain ⟨a, e1, rb⟩ := rm.ob _ _ hm
        rw [e] at e1; cases e1
        exact rbL rb h
      · rename_i hm
        obtain ⟨a, e1, rb⟩ := rm.ob _ _ hm
        rw [e] at e1; cases e1
        exact rbT rb h
      · cases h
  · obtain ⟨p, e, _, _, rb⟩ := ro
    subst e
    exact rbL rb h
  · obtain ⟨p, e, _, _, rb⟩ := ro
    subst e
    exact rbT rb h
  · cases h
/-- rules that may give a place to what is new: seen from the start -/
def R2N (K : PySem.W.Frag) (r : R2) (f : F2) : Prop := ∀ (ι0 : List Addr) (H0 : Hp) (ι : List Addr) (H : Hp) (m : Mem) (x y z : Out) (vx vy : V) (m' : Mem) (Q : VK), Le ι0 H0 ι H → RM K ι H m → Bnd K H → RO K H0 ι H x vx → RO K H0 ι H y vy → f x y m = some (z, m') →
  (∀ v ι' H', Le ι0 H0 ι' H' → RM K ι' H' m' → RO K H0 ι' H' z v → Q v H') → r vx vy H Q
theorem R2S.n {K : PySem.W.Frag} {r : R2} {f : F2} (h : R2S K r f) : R2N K r f := fun ι0 H0 ι H m x y z vx vy m' Q l rm bd rx ry hf k => h ι H H0 m x y z vx vy m' Q rm bd rx ry hf fun v ι' H' l' rm' ro' => k v ι' H' (l.tr rm l') rm' (ro'.from l rm)
section
variable {X : Cx} {e : Expr} {fa fb : E} {T : String} {f : F1} {f2 : F2} {r : V → List V → Hp → VK → Prop}
theorem se_mt1 (h0 : PE X e (tBM X.K T r (tE X.K fa) (tCons (tE X.K fb) tNil))) (hr : R2N X.K (fun v u H Q => r v [u] H Q) f2) : SE X e (eMt1 T f2 fa fb) := pe_imp h0 fun σ H Q ⟨ι, ρ, m, z, m', rs, rm, hf, k⟩ => by
  obtain ⟨x, h1, hf⟩ := bind_some hf
  split at hf
  · rename_i ht
    obtain ⟨y, h2, hf⟩ := bind_some hf
    refine ⟨ι, ρ, m, x.1, x.2, rs, rm, h1, fun v ι1 H1 l1 rm1 ro1 bd1 => ⟨tyV_of rm1 ro1 ht, ?_⟩⟩
    refine ⟨ι1, ρ, x.2, y.1, y.2, rs.mono l1, rm1, h2, fun u ι2 H2 l2 rm2 ro2 bd2 => ?_⟩
    exact hr ι H ι2 H2 y.2 x.1 y.1 z v u m' _ (l1.tr rm1 l2) rm2 bd2 (ro1.mono l2) (ro2.from l1 rm1) hf fun w ι3 H3 l3 rm3 ro3 bd3 => k w ι3 H3 l3 rm3 ro3 bd3
  · cases hf
theorem se_mt0 (h0 : PE X e (tBM0 X.K T r (tE X.K fa))) (hr : R1S X.K (fun v H Q => r v [] H Q) f) : SE X e (eMt0 T f fa) := pe_imp h0 fun σ H Q ⟨ι, ρ, m, z, m', rs, rm, hf, k⟩ => by
  obtain ⟨x, h1, hf⟩ := bind_some hf
  split at hf
  · rename_i ht
    refine ⟨ι, ρ, m, x.1, x.2, rs, rm, h1, fun v ι1 H1 l1 rm1 ro1 bd1 => ⟨tyV_of rm1 ro1 ht, ?_⟩⟩
    exact hr ι1 H1 H x.2 x.1 z v m' _ rm1 bd1 ro1 hf fun w ι3 H3 l3 rm3 ro3 bd3 => k w ι3 H3 (l1.tr rm1 l3) rm3 (ro3.from l1 rm1) bd3
  · cases hf
end
/-- xs.append(y) -/
noncomputable def appF (x : Out) (y : Out) (m : Mem) : Option (Out × Mem) := match x with
  | .v (.ref n) => (match m[n]? with
    | some (.lst xs) => if fits (xs.length + 1) then some (.v .non, (val y m).2.set n (.lst (xs ++ [(val y m).1]))) else none
    | _ => none)
  | _ => none
theorem mem_val {y : Out} {m : Mem} {n : Nat} {b : Ob} (h : m[n]? = some b) : (val y m).2[n]? = some b := by
  cases y with
  | v d => exact h
  | o c => show (m ++ [c])[n]? = some b; rw [List.getElem?_append_left (List.getElem?_eq_some_iff.mp h).1]; exact h
theorem RS.nil (K : PySem.W.Frag) (ι : List Addr) (H : Hp) : RS K ι H [] [] := ⟨rfl, fun i d h => by simp at h⟩
theorem appU {K : PySem.W.Frag} : R2N K (fun v u H Q => rAppend v [u] H Q) appF := by
  intro ι0 H0 ι H m x y z vx vy m' Q l rm bd rx ry hf k
  unfold appF at hf
  split at hf
  · split at hf
    · rename_i n xs hm
      split at hf
      · rename_i hl; cases hf
        cases rx with
        | ref e =>
          obtain ⟨a, e1, vs, e2, r⟩ := rm.ob _ _ hm
          rw [e] at e1; cases e1
          refine ⟨_, vs, vy, rfl, rfl, e2, by rw [← r.length]; exact hl, ?_⟩
          obtain ⟨ι2, l2, rm2, rv2, _, up, ups⟩ := ry.val l rm (RS.nil K ι H)
          cases up _ _ (RV.ref e) with
          | ref e' =>
            obtain ⟨l3, rm3⟩ := set_lst rm2 e' e2 ((ups _ _ r).append (.cons rv2 .nil))
            exact k _ ι2 _ (l2.tr rm2 l3) rm3 RV.non
      · cases hf
    · cases hf
  · cases hf
/-- xs.pop(i), xs.pop() -/
noncomputable def popF (x : Out) (y : Out) (m : Mem) : Option (Out × Mem) := match x, y with
  | .v (.ref n), .v (.int i) => (match m[n]? with
    | some (.lst xs) => if i63 i then (seqIndex? i xs.length).bind fun k => (xs[k]?).map fun d => (.v d, m.set n (.lst (xs.eraseIdx k))) else none
    | _ => none)
  | _, _ => none
theorem popU {K : PySem.W.Frag} : R2S K (fun v u H Q => rPopAt v [u] H Q) popF := by
  intro ι H H0 m x y z vx vy m' Q rm bd rx ry hf k
  unfold popF at hf
  split at hf
  · split at hf
    · rename_i n i _ xs hm
      split at hf
      · rename_i hi
        obtain ⟨kk, h1, hf⟩ := bind_some hf
        obtain ⟨d, h2, h3⟩ := Option.map_eq_some_iff.mp hf
        cases h3
        cases ry
        cases rx with
        | ref e =>
          obtain ⟨a, e1, vs, e2, r⟩ := rm.ob _ _ hm
          rw [e] at e1; cases e1
          obtain ⟨v, e3, e4⟩ := r.get h2
          obtain ⟨l3, rm3⟩ := set_lst rm e e2 (r.eraseIdx kk)
          exact ⟨_, vs, i, kk, v, rfl, rfl, e2, hi.1, hi.2, by rw [← r.length]; exact h1, e3, k _ ι _ l3 rm3 (RV.mono l3 e4)⟩
      · cases hf
    · cases hf
  · cases hf
def pop0F (x : Out) (m : Mem) : Option (Out × Mem) := match x with
  | .v (.ref n) => (match m[n]? with
    | some (.lst xs) => (xs[xs.length - 1]?).map fun d => (.v d, m.set n (.lst xs.dropLast))
    | _ => none)
  | _ => none
theorem RVs.dropLast {K : PySem.W.Frag} {ι : List Addr} {H : Hp} {ds : List D} {vs : List V} (r : RVs K ι H ds vs) : RVs K ι H ds.dropLast vs.dropLast := by
  rw [List.dropLast_eq_take, List.dropLast_eq_take, r.length]
  exact r.take _
theorem pop0U {K : PySem.W.Frag} : R1S K (fun v H Q => rPop v [] H Q) pop0F := by
  intro ι H H0 m x z vx m' Q rm bd rx hf k
  unfold pop0F at hf
  split at hf
  · split at hf
    · rename_i n xs hm
      obtain ⟨d, h2, h3⟩ := Option.map_eq_some_iff.mp hf
      cases h3
      cases rx with
      | ref e =>
        obtain ⟨a, e1, vs, e2, r⟩ := rm.ob _ _ hm
        rw [e] at e1; cases e1
        obtain ⟨v, e3, e4⟩ := r.get h2
        obtain ⟨l3, rm3⟩ := set_lst rm e e2 r.dropLast
        exact ⟨_, vs, v, rfl, rfl, e2, by rw [← r.length]; exact e3, k _ ι _ l3 rm3 (RV.mono l3 e4)⟩
    · cases hf
  · cases hf
/-- xs.extend(ys) -/
noncomputable def extF (x : Out) (y : Out) (m : Mem) : Option (Out × Mem) := match x with
  | .v (.ref n) => (match m[n]? with
    | some (.lst xs) => (lstOf y m).bind fun ys => if fits (xs.length + ys.length) then some (.v .non, m.set n (.lst (xs ++ ys))) else none
    | _ => none)
  | _ => none
theorem extU {K : PySem.W.Frag} : R2S K (fun v u H Q => rExtend v [u] H Q) extF := by
  intro ι H H0 m x y z vx vy m' Q rm bd rx ry hf k
  unfold extF at hf
  split at hf
  · split at hf
    · rename_i n xs hm
      obtain ⟨ys, h1, hf⟩ := bind_some hf
      split at hf
      · rename_i hl; cases hf
        obtain ⟨b, ws, rfl, hb, rb⟩ := lst_at rm ry h1
        cases rx with
        | ref e =>
          obtain ⟨a, e1, vs, e2, r⟩ := rm.ob _ _ hm
          rw [e] at e1; cases e1
          obtain ⟨l3, rm3⟩ := set_lst rm e e2 (r.append rb)
          exact ⟨_, _, vs, ws, rfl, rfl, e2, hb, by rw [← r.length, ← rb.length]; exact hl, k _ ι _ l3 rm3 RV.non⟩
      · cases hf
    · cases hf
  · cases hf
/-- sep.join(texts) -/
def strsOf : List D → Option (List Str)
  | [] => some []
  | .str b :: r => (strsOf r).map (b :: ·)
  | _ => none
theorem strsOf_eq : ∀ {xs : List D} {bs : List Str}, strsOf xs = some bs → xs = bs.map D.str
  | [], bs, h => by cases h; rfl
  | d :: r, bs, h => by
    cases d with
    | str b =>
      rw [strsOf] at h
      obtain ⟨cs, h1, h2⟩ := Option.map_eq_some_iff.mp h
      rw [← h2, strsOf_eq h1]; rfl
    | _ => simp [strsOf] at h
theorem strsOf_map (bs : List Str) : strsOf (bs.map D.str) = some bs := by
  induction bs with
  | nil => rfl
  | cons b r ih => simp [strsOf, ih]
noncomputable def joinF (x : Out) (y : Out) (m : Mem) : Option (Out × Mem) := match x with
  | .v (.str a) => (seqOf y m).bind fun xs => (strsOf xs).bind fun ys => if fits ((ys.map (·.length)).sum + ys.length * a.length) then some (.v (.str (Txt.join a ys)), m) else none
  | _ => none
def rJoinU (K : PySem.W.Frag) : V → List V → Hp → VK → Prop := fun x xs H Q => ∃ a p, ∃ ys : List Str, x = .str a ∧ xs = [.ref p] ∧ (SqL K H p (ys.map V.str) ∨ SqT K H p (ys.map V.str)) ∧ (ys.map (·.length)).sum + ys.length * a.length ≤ 16777216 ∧ Q (.str (Txt.join a ys)) H
theorem joinU {K : PySem.W.Frag} : R2S K (fun v u H Q => rJoinU K v [u] H Q) joinF := by
  intro ι H H0 m x y z vx vy m' Q rm bd rx ry hf k
  unfold joinF at hf
  split at hf
  · obtain ⟨xs, h1, hf⟩ := bind_some hf
    obtain ⟨ys, h2, hf⟩ := bind_some hf
    split at hf
    · rename_i hl; cases hf; cases rx
      obtain ⟨a, vs, rfl, hs, r⟩ := seq_at rm ry h1
      rw [strsOf_eq h2] at r
      have := r.of_strs
      subst this
      have hl' : _ ≤ 16777216 := Nat.le_trans (show _ ≤ sizeLine from hl) (Nat.le_of_eq sizeLine_eq)
      exact ⟨_, _, ys, rfl, rfl, hs, hl', k _ ι H (Le.refl _ _) rm (RV.str _)⟩
    · cases hf
  · cases hf
/-! ### in -/
mutual
def flatD : D → Bool
  | .non => true
  | .bl _ => true
  | .int _ => true
  | .str _ => true
  | _ => false
end
theorem flatD_v {K : PySem.W.Frag} {ι : List Addr} {H : Hp} {d : D} {v : V} (r : RV K ι H d v) (h : flatD d = true) : flatV v = true := by
  cases r <;> first | rfl | (simp [flatD] at h)
theorem flatD_all {K : PySem.W.Frag} {ι : List Addr} {H : Hp} : ∀ {ds : List D} {vs : List V}, RVs K ι H ds vs → ds.all flatD = true → vs.all flatV = true
  | _, _, .nil, _ => rfl
  | _, _, .cons r t, h => by
    simp only [List.all_cons, Bool.and_eq_true] at h ⊢
    exact ⟨flatD_v r h.1, flatD_all t h.2⟩
theorem eqV_D {K : PySem.W.Frag} {ι : List Addr} {H : Hp} {d e : D} {v u : V} (r : RV K ι H d v) (q : RV K ι H e u) (h : flatD d = true) (h2 : flatD e = true) : eqV v u = d.eqb e := by
  cases r <;> cases q <;> first | (simp [flatD] at h; done) | (simp [flatD] at h2; done) | simp [eqV, D.eqb, bdec]
theorem inV_D {K : PySem.W.Frag} {ι : List Addr} {H : Hp} {e : D} {u : V} (q : RV K ι H e u) (h2 : flatD e = true) : ∀ {ds : List D} {vs : List V}, RVs K ι H ds vs → ds.all flatD = true → inV u vs = ds.any fun d => d.eqb e
  | _, _, .nil, _ => rfl
  | _, _, .cons r t, h => by
    simp only [List.all_cons, Bool.and_eq_true] at h
    have ih := inV_D q h2 t h.2
    unfold inV at ih ⊢
    simp only [List.any_cons, ih, eqV_D r q h.1 h2]
/-- x in y: a sign in a text; flat things in a list or tuple; any data in a list -/
def inF (neg : Bool) (x : Out) (y : Out) (m : Mem) : Option (Out × Mem) := match y with
  | .v (.str z) => (match x with
    | .v (.str a) => some (.v (.bl (if neg then !(!(Builtin.Str.occurrences z a 0 z.length 1).isEmpty) else !(Builtin.Str.occurrences z a 0 z.length 1).isEmpty)), m)
    | _ => none)
  | y => (form x m).bind fun a => (seqOf y m).bind fun xs =>
    if flatD a = true ∧ xs.all flatD = true then some (.v (.bl (if neg then !(xs.any fun d => d.eqb a) else xs.any fun d => d.eqb a)), m)
    else if okD 64 a = true ∧ okL 63 xs = true then some (.v (.bl (if neg then !(xs.any fun d => d.eqb a) else xs.any fun d => d.eqb a)), m) else none
section
variable {X : Cx}
def rInT (K : PySem.W.Frag) (neg : Bool) : R2 := fun x y H Q => ∃ d ds, Dp K H x d ∧ Dp K H y (.tuple ds) ∧ SeqAt.shaped d = true ∧ SeqAt.shaped (.tuple ds) = true ∧ Q (.bl (if neg then !(ds.any fun z => PyData.eqv z d) else ds.any fun z => PyData.eqv z d)) H
theorem op_inT (hu : X.A.units + 65 < cLine) : OpR X (compareOp .In) (rInT X.K false) := by
  intro pins s σ H x y v u Q I rx ry h
  obtain ⟨d, ds, hd, he, sd, se, q⟩ := h
  obtain ⟨as, r1⟩ := Dp.reads I d x v hd rx
  obtain ⟨bs, r2⟩ := Dp.reads I (.tuple ds) y u he ry
  exact SeqAt.in_tuple_reads r2 r1 (SeqAt.canLay_of_shaped se) (SeqAt.canLay_of_shaped sd) (PyProof.Rows.room_in_shaped sd hu) ⟨.bl _, H, I, rfl, q⟩
theorem op_notInT (hu : X.A.units + 65 < cLine) : OpR X (compareOp .NotIn) (rInT X.K true) := by
  intro pins s σ H x y v u Q I rx ry h
  obtain ⟨d, ds, hd, he, sd, se, q⟩ := h
  obtain ⟨as, r1⟩ := Dp.reads I d x v hd rx
  obtain ⟨bs, r2⟩ := Dp.reads I (.tuple ds) y u he ry
  exact SeqAt.notIn_tuple_reads r2 r1 (SeqAt.canLay_of_shaped se) (SeqAt.canLay_of_shaped sd) (PyProof.Rows.room_in_shaped sd hu) ⟨.bl _, H, I, rfl, q⟩
end
theorem any_pd {a : D} : ∀ {xs : List D} {n k : Nat}, okD n a = true → okL k xs = true → ((pdL xs).any fun z => PyData.eqv z a.pd) = xs.any fun d => d.eqb a
  | [], _, _, _, _ => rfl
  | d :: ds, n, k, h, h2 => by
    rw [okL, Bool.and_eq_true] at h2
    rw [pdL]
    simp only [List.any_cons, any_pd h h2.2, pd_eqv d a k n h2.1 h]
def rInU (K : PySem.W.Frag) : R2 := fun x y H Q => (((∃ i j, x = .str i ∧ y = .str j ∧ Q (.bl (!(Builtin.Str.occurrences j i 0 j.length 1).isEmpty)) H) ∨ rIn K false x y H Q) ∨ rInD K x y H Q) ∨ rInT K false x y H Q
def rNotInU (K : PySem.W.Frag) : R2 := fun x y H Q => (((∃ i j, x = .str i ∧ y = .str j ∧ Q (.bl (!(!(Builtin.Str.occurrences j i 0 j.length 1).isEmpty))) H) ∨ rIn K true x y H Q) ∨ rNotInD K x y H Q) ∨ rInT K true x y H Q
theorem op_inU {X : Cx} (hu : X.A.units + 65 < cLine) : OpR X (compareOp .In) (rInU X.K) := ((op_in_str.or op_in_seq).or (op_inD hu)).or (op_inT hu)
theorem op_notInU {X : Cx} (hu : X.A.units + 65 < cLine) : OpR X (compareOp .NotIn) (rNotInU X.K) := ((op_notin_str.or op_notIn_seq).or (op_notInD hu)).or (op_notInT hu)
theorem flat_ok {a : D} (h : flatD a = true) (h2 : okD 64 a = true) : True := trivial
theorem form_flat {K : PySem.W.Frag} {ι : List Addr} {H H0 : Hp} {m : Mem} {x : Out} {v : V} {a : D} (ro : RO K H0 ι H x v) (h : form x m = some a) (hf : flatD a = true) : RV K ι H a v := by
  unfold form at h
  split at h
  · split at h
    · cases h; simp [flatD] at hf
    · cases h
  · cases h; simp [flatD] at hf
  · cases h; exact ro
  · cases h
/-- a list or a tuple as data -/
theorem seq_dp {K : PySem.W.Frag} {ι : List Addr} {H H0 : Hp} {m : Mem} {y : Out} {v : V} {xs : List D} (rm : RM K ι H m) (ro : RO K H0 ι H y v) (h : seqOf y m = some xs) (hk : okL 63 xs = true) : Dp K H v (.list (pdL xs)) ∨ Dp K H v (.tuple (pdL xs)) := by
  obtain ⟨a, vs, rfl, hs, r⟩ := seq_at rm ro h
  rcases hs with hs | hs
  · exact .inl (.lst hs (r.dp hk))
  · exact .inr (.tup hs (r.dp hk))
theorem shapedL {xs : List D} (hk : okL 63 xs = true) : SeqAt.shaped (.list (pdL xs)) = true := by
  have q := pdL_lay xs 63 hk
  unfold SeqAt.shaped
  simp only [PyData.canLay0, PyData.depth, q.1, Bool.true_and]
  exact decide_eq_true (by omega)
theorem shapedT {xs : List D} (hk : okL 63 xs = true) : SeqAt.shaped (.tuple (pdL xs)) = true := by
  have q := pdL_lay xs 63 hk
  unfold SeqAt.shaped
  simp only [PyData.canLay0, PyData.depth, q.1, Bool.true_and]
  exact decide_eq_true (by omega)
theorem inU {K : PySem.W.Frag} : R2S K (rInU K) (inF false) := by
  intro ι H H0 m x y z vx vy m' Q rm bd rx ry hf k
  unfold inF at hf
  split at hf
  · split at hf
    · cases hf; cases rx; cases ry
      exact .inl (.inl (.inl ⟨_, _, rfl, rfl, k _ ι H (Le.refl _ _) rm (RV.bl _)⟩))
    · cases hf
  · obtain ⟨a, h1, hf⟩ := bind_some hf
    obtain ⟨xs, h2, hf⟩ := bind_some hf
    split at hf
    · rename_i hfl; cases hf
      have ra := form_flat rx h1 hfl.1
      obtain ⟨p, vs, rfl, hs, r⟩ := seq_at rm ry h2
      refine .inl (.inl (.inr ⟨_, vs, rfl, hs, flatD_v ra hfl.1, flatD_all r hfl.2, ?_⟩))
      rw [inV_D ra hfl.1 r hfl.2]
      exact k _ ι H (Le.refl _ _) rm (RV.bl _)
    · split at hf
      · rename_i hok; cases hf
        have da := form_at rm rx h1 hok.1
        rw [if_neg Bool.false_ne_true] at k
        rcases seq_dp rm ry h2 hok.2 with q | q
        · exact .inl (.inr ⟨_, _, da, q, shaped_of hok.1, shapedL hok.2, by rw [any_pd hok.1 hok.2]; exact k _ ι H (Le.refl _ _) rm (RV.bl _)⟩)
        · refine .inr ⟨_, _, da, q, shaped_of hok.1, shapedT hok.2, ?_⟩
          rw [any_pd hok.1 hok.2]
          exact k _ ι H (Le.refl _ _) rm (RV.bl _)
      · cases hf
theorem notInU {K : PySem.W.Frag} : R2S K (rNotInU K) (inF true) := by
  intro ι H H0 m x y z vx vy m' Q rm bd rx ry hf k
  unfold inF at hf
  split at hf
  · split at hf
    · cases hf; cases rx; cases ry
      exact .inl (.inl (.inl ⟨_, _, rfl, rfl, k _ ι H (Le.refl _ _) rm (RV.bl _)⟩))
    · cases hf
  · obtain ⟨a, h1, hf⟩ := bind_some hf
    obtain ⟨xs, h2, hf⟩ := bind_some hf
    split at hf
    · rename_i hfl; cases hf
      have ra := form_flat rx h1 hfl.1
      obtain ⟨p, vs, rfl, hs, r⟩ := seq_at rm ry h2
      refine .inl (.inl (.inr ⟨_, vs, rfl, hs, flatD_v ra hfl.1, flatD_all r hfl.2, ?_⟩))
      rw [inV_D ra hfl.1 r hfl.2]
      exact k _ ι H (Le.refl _ _) rm (RV.bl _)
    · split at hf
      · rename_i hok; cases hf
        have da := form_at rm rx h1 hok.1
        rw [if_pos rfl] at k
        rcases seq_dp rm ry h2 hok.2 with q | q
        · exact .inl (.inr ⟨_, _, da, q, shaped_of hok.1, shapedL hok.2, by rw [any_pd hok.1 hok.2]; exact k _ ι H (Le.refl _ _) rm (RV.bl _)⟩)
        · refine .inr ⟨_, _, da, q, shaped_of hok.1, shapedT hok.2, ?_⟩
          rw [any_pd hok.1 hok.2]
          exact k _ ι H (Le.refl _ _) rm (RV.bl _)
      · cases hf
/-! ### o[i] = v in a list -/
def stoF (o i : Out) (d : D) (m : Mem) : Option Mem := match o, i with
  | .v (.ref n), .v (.int k) => (match m[n]? with
    | some (.lst xs) => (ixN xs.length k).map fun j => m.set n (.lst (xs.set j d))
    | _ => none)
  | _, _ => none
@[simp] def gIx (o i : E) (d : D) (ρ : Env) (m : Mem) : Option (Env × Mem) := (o ρ m).bind fun x => (i ρ x.2).bind fun y => (stoF x.1 y.1 d y.2).bind fun m' => some (ρ, m')
theorem sg_ix {X : Cx} {e : Expr} {fo fi : E} (h0 : PG X e (gSub (tE X.K fo) (tE X.K fi) rSetL)) : SG X e (gIx fo fi) := pg_imp h0 fun v σ H Q ⟨ι, ρ, m, d, ρ', m', rs, rm, rv, hg, k⟩ => by
  obtain ⟨x, h1, hg⟩ := bind_some hg
  obtain ⟨y, h2, hg⟩ := bind_some hg
  obtain ⟨m2, h3, hg⟩ := bind_some hg
  cases hg
  refine ⟨ι, ρ, m, x.1, x.2, rs, rm, h1, fun ov ι1 H1 l1 rm1 ro1 bd1 => ?_⟩
  refine ⟨ι1, ρ, x.2, y.1, y.2, rs.mono l1, rm1, h2, fun iv ι2 H2 l2 rm2 ro2 bd2 => ?_⟩
  unfold stoF at h3
  split at h3
  · rename_i n kk e1 e2
    rw [e1] at ro1
    rw [e2] at ro2
    cases ro2
    split at h3
    · rename_i xs hm
      obtain ⟨j, h4, h5⟩ := Option.map_eq_some_iff.mp h3
      cases h5
      have ro3 := ro1.mono l2
      cases ro3 with
      | ref e =>
        obtain ⟨a, e3, vs, e4, r⟩ := rm2.ob _ _ hm
        rw [e] at e3; cases e3
        obtain ⟨l3, rm3⟩ := set_lst rm2 e e4 (r.set ((rv.mono l1).mono l2) j)
        exact ⟨_, vs, kk, j, rfl, rfl, e4, by rw [← r.length]; exact h4, k _ ι2 _ (l1.tr rm1 (l2.tr rm2 l3)) (((rs.mono l1).mono l2).mono l3) rm3⟩
    · cases h3
  · cases h3
end Q
namespace Q
open PySem L2

/-! ### short words for the terms that are printed -/
section
variable {X : Cx} {e a b c : Expr} {es : List Expr} {pos p p2 : Pos} {fa fb fc : E} {ca cb : B} {fr : A} {x : Str} {k j : Nat}
theorem v_ (i : Nat) {x : Str} {pos : Pos} (hN : X.N[i]? = some x := by rfl) (hv : Vis X.env.scope x := by first | exact Or.inl rfl | exact Or.inr (Or.inl rfl) | exact Or.inr (Or.inr rfl)) (hd : (x == ("__debug__" : Str)) = false := by decide)
    (hcd : (x == ("__classdict__" : Str)) = false := by decide) : SE X (.Name x pos) (eVar i) := se_var (pe_var hN hv hd hcd)
theorem ci {i : Int} {j : Nat} : SE X (.Constant (.int i) j pos) (eC (.int i)) := se_c pe_int fun _ _ _ => .int i
theorem cs {s : Str} {j : Nat} : SE X (.Constant (.str s) j pos) (eC (.str s)) := se_c pe_str fun _ _ _ => .str s
theorem cb_ {b : Bool} {j : Nat} : SE X (.Constant (.bool b) j pos) (eC (.bl b)) := se_c pe_bl fun _ _ _ => .bl b
theorem cn {j : Nat} : SE X (.Constant .none j pos) (eC .non) := se_c pe_non fun _ _ _ => .non
/-- constants of the module -/
theorem gs_ {s : Str} {t : Tok} (h : X.mg x = some (.str s t)) (hg : Gl X x := by rfl) (hd : (x == ("__debug__" : Str)) = false := by decide) : SE X (.Name x pos) (eC (.str s)) := se_c (v := .str s) (pe_glob hg h ⟨t, rfl⟩ hd) fun _ _ _ => .str s
theorem gi_ {s : Int} {t : Tok} (h : X.mg x = some (.int s t)) (hg : Gl X x := by rfl) (hd : (x == ("__debug__" : Str)) = false := by decide) : SE X (.Name x pos) (eC (.int s)) := se_c (v := .int s) (pe_glob hg h ⟨t, rfl⟩ hd) fun _ _ _ => .int s
theorem add_ (ha : SE X a fa) (hb : SE X b fb) : SE X (.BinOp a .Add b pos) (eBin addF fa fb) := se_op op_addU addU ha hb
theorem sub_ (ha : SE X a fa) (hb : SE X b fb) : SE X (.BinOp a .Sub b pos) (eBin subF fa fb) := se_op op_sub subU ha hb
theorem mul_ (ha : SE X a fa) (hb : SE X b fb) : SE X (.BinOp a .Mult b pos) (eBin mulF fa fb) := se_op op_mulU mulU ha hb
theorem mod_ (ha : SE X a fa) (hb : SE X b fb) : SE X (.BinOp a .Mod b pos) (eBin modF fa fb) := se_op op_mod modU ha hb
theorem div_ (ha : SE X a fa) (hb : SE X b fb) : SE X (.BinOp a .FloorDiv b pos) (eBin divF fa fb) := se_op op_fdiv divU ha hb
theorem pow_ (ha : SE X a fa) (hb : SE X b fb) : SE X (.BinOp a .Pow b pos) (eBin powF fa fb) := se_op op_pow powU ha hb
theorem neg_ (ha : SE X a fa) : SE X (.UnaryOp .USub a pos) (eUn negF fa) := se_un un_neg negU ha (pe_un un_neg ha)
theorem and_ {rest : List Expr} (ha : SE X a fa) (hb : SE X (.BoolOp .And (b :: rest) pos) fb) : SE X (.BoolOp .And (a :: b :: rest) pos) (eAnd fa fb) := se_and ha hb (pe_and ha hb)
theorem or_ {rest : List Expr} (ha : SE X a fa) (hb : SE X (.BoolOp .Or (b :: rest) pos) fb) : SE X (.BoolOp .Or (a :: b :: rest) pos) (eOr fa fb) := se_or ha hb (pe_or ha hb)
theorem one_ {op : BoolOp} (ha : SE X a fa) : SE X (.BoolOp op [a] pos) fa := pe_one ha
theorem not_ (ha : SE X a fa) : SE X (.UnaryOp .Not a pos) (eNot fa) := se_not (pe_not ha)
theorem if_ (hc : ST X c ca) (ha : SE X a fa) (hb : SE X b fb) : SE X (.IfExp c a b pos) (eIf ca fa fb) := se_if (pe_ifExp hc ha hb)
/-! comparisons as values and as tests -/
theorem eq_ (hr : Room k X.A) (ha : SE X a fa) (hb : SE X b fb) : SE X (.Compare a [.Eq] [b] pos) (eBin eqF fa fb) := se_cmp (op_eqD hr.units) eqU ha hb (nomark _)
theorem ne_ (hr : Room k X.A) (ha : SE X a fa) (hb : SE X b fb) : SE X (.Compare a [.NotEq] [b] pos) (eBin neF fa fb) := se_cmp (op_neD hr.units) neU ha hb (nomark _)
theorem lt_ (ha : SE X a fa) (hb : SE X b fb) : SE X (.Compare a [.Lt] [b] pos) (eBin ltF fa fb) := se_cmp op_lt cmpU ha hb (nomark _)
theorem le_ (ha : SE X a fa) (hb : SE X b fb) : SE X (.Compare a [.LtE] [b] pos) (eBin leF fa fb) := se_cmp op_le cmpU ha hb (nomark _)
theorem gt_ (ha : SE X a fa) (hb : SE X b fb) : SE X (.Compare a [.Gt] [b] pos) (eBin gtF fa fb) := se_cmp op_gt cmpU ha hb (nomark _)
theorem ge_ (ha : SE X a fa) (hb : SE X b fb) : SE X (.Compare a [.GtE] [b] pos) (eBin geF fa fb) := se_cmp op_ge cmpU ha hb (nomark _)
theorem is_ (ha : SE X a fa) (hb : SE X b fb) : SE X (.Compare a [.Is] [b] pos) (eBin (isF false) fa fb) := se_cmp op_isU isU ha hb (nomark _)
theorem isn_ (ha : SE X a fa) (hb : SE X b fb) : SE X (.Compare a [.IsNot] [b] pos) (eBin (isF true) fa fb) := se_cmp op_isNU isNU ha hb (nomark _)
theorem u65 (hr : Room k X.A) : X.A.units + 65 < cLine := by have := hr.un; omega
theorem in_ (hr : Room k X.A) (ha : SE X a fa) (hb : SE X b fb) (hm : behindInMarks .In b = false := by with_unfolding_all rfl) : SE X (.Compare a [.In] [b] pos) (eBin (inF false) fa fb) := se_cmp (op_inU (u65 hr)) inU ha hb hm
theorem nin_ (hr : Room k X.A) (ha : SE X a fa) (hb : SE X b fb) (hm : behindInMarks .NotIn b = false := by with_unfolding_all rfl) : SE X (.Compare a [.NotIn] [b] pos) (eBin (inF true) fa fb) := se_cmp (op_notInU (u65 hr)) notInU ha hb hm
theorem t_eq (hr : Room k X.A) (ha : SE X a fa) (hb : SE X b fb) : ST X (.Compare a [.Eq] [b] pos) (bOf (eBin eqF fa fb)) := st_cmp (op_eqD hr.units) eqU ha hb (nomark _)
theorem t_ne (hr : Room k X.A) (ha : SE X a fa) (hb : SE X b fb) : ST X (.Compare a [.NotEq] [b] pos) (bOf (eBin neF fa fb)) := st_cmp (op_neD hr.units) neU ha hb (nomark _)
theorem t_lt (ha : SE X a fa) (hb : SE X b fb) : ST X (.Compare a [.Lt] [b] pos) (bOf (eBin ltF fa fb)) := st_cmp op_lt cmpU ha hb (nomark _)
theorem t_le (ha : SE X a fa) (hb : SE X b fb) : ST X (.Compare a [.LtE] [b] pos) (bOf (eBin leF fa fb)) := st_cmp op_le cmpU ha hb (nomark _)
theorem t_gt (ha : SE X a fa) (hb : SE X b fb) : ST X (.Compare a [.Gt] [b] pos) (bOf (eBin gtF fa fb)) := st_cmp op_gt cmpU ha hb (nomark _)
theorem t_ge (ha : SE X a fa) (hb : SE X b fb) : ST X (.Compare a [.GtE] [b] pos) (bOf (eBin geF fa fb)) := st_cmp op_ge cmpU ha hb (nomark _)
theorem t_is (ha : SE X a fa) (hb : SE X b fb) : ST X (.Compare a [.Is] [b] pos) (bOf (eBin (isF false) fa fb)) := st_cmp op_isU isU ha hb (nomark _)
theorem t_isn (ha : SE X a fa) (hb : SE X b fb) : ST X (.Compare a [.IsNot] [b] pos) (bOf (eBin (isF true) fa fb)) := st_cmp op_isNU isNU ha hb (nomark _)
theorem t_in (hr : Room k X.A) (ha : SE X a fa) (hb : SE X b fb) (hm : behindInMarks .In b = false := by with_unfolding_all rfl) : ST X (.Compare a [.In] [b] pos) (bOf (eBin (inF false) fa fb)) := st_cmp (op_inU (u65 hr)) inU ha hb hm
theorem t_nin (hr : Room k X.A) (ha : SE X a fa) (hb : SE X b fb) (hm : behindInMarks .NotIn b = false := by with_unfolding_all rfl) : ST X (.Compare a [.NotIn] [b] pos) (bOf (eBin (inF true) fa fb)) := st_cmp (op_notInU (u65 hr)) notInU ha hb hm
/-- chains of two, of ints -/
theorem ch_ {op op' : CmpOp} {r r' : R2} {f g : F2} (ho : OpR X (compareOp op) r) (ho' : OpR X (compareOp op') r') (hr : R2S X.K r f) (hr' : R2S X.K r' g) (ha : SE X a fa) (hb : SE X b fb) (hc : SE X c fc)
    (hm : lastMarks [op, op'] [b, c] = false := by with_unfolding_all rfl) : SE X (.Compare a [op, op'] [b, c] pos) (eChain f g fa fb fc) := se_chain (pe_chain ho ho' ha hb hc hm) hr hr'
theorem t_ch {op op' : CmpOp} {r r' : R2} {f g : F2} (ho : OpR X (compareOp op) r) (ho' : OpR X (compareOp op') r') (hr : R2S X.K r f) (hr' : R2S X.K r' g) (ha : SE X a fa) (hb : SE X b fb) (hc : SE X c fc)
    (hm : lastMarks [op, op'] [b, c] = false := by with_unfolding_all rfl) : ST X (.Compare a [op, op'] [b, c] pos) (bOf (eChain f g fa fb fc)) := st_chain (pt_chain ho ho' ha hb hc hm) hr hr'
theorem t_val (h : SE X e fa) (he : ∀ whole, isTrue e X.env whole = (do let v ← whole; standAt e.pos; holding [v] (truthy v)) := by intro _; rfl) : ST X e (bOf fa) := st_of (pt_val h he)
theorem t_not (h : ST X a ca) : ST X (.UnaryOp .Not a pos) (bNot ca) := st_not (pt_not h)
theorem w_and {rest : List Expr} (ha : ST X a ca) (hb : SW X (.BoolOp .And (b :: rest) pos) cb) : SW X (.BoolOp .And (a :: b :: rest) pos) (bAnd ca cb) := sw_and (pw_and ha hb)
theorem w_or {rest : List Expr} (ha : ST X a ca) (hb : SW X (.BoolOp .Or (b :: rest) pos) cb) : SW X (.BoolOp .Or (a :: b :: rest) pos) (bOr ca cb) := sw_or (pw_or ha hb)
theorem w_and1 (ha : ST X a ca) : SW X (.BoolOp .And [a] pos) ca := pw_and1 ha
theorem w_or1 (ha : ST X a ca) : SW X (.BoolOp .Or [a] pos) ca := pw_or1 ha
theorem t_w (h : SW X e ca) : ST X e ca := h.pt
/-! arguments -/
theorem a0 : SA X [] aNil := sa_nil
theorem a1 (h : SE X e fa) (hr : SA X es fr) (hs : starEach (e :: es) X.env = (false, eval e X.env) :: starEach es X.env := by rfl) : SA X (e :: es) (aCons fa fr) := sa_cons (pa_cons h hr hs)
theorem pa1 {ta : TE} (h : PE X a ta) (hs : starEach [a] X.env = (false, eval a X.env) :: starEach [] X.env := by rfl) : PA X [a] (tCons ta tNil) := pa_cons h pa_nil hs
theorem pa2 {ta tb : TE} (h : PE X a ta) (h2 : PE X b tb) (hs : starEach [a, b] X.env = (false, eval a X.env) :: starEach [b] X.env := by rfl) (hs2 : starEach [b] X.env = (false, eval b X.env) :: starEach [] X.env := by rfl) : PA X [a, b] (tCons ta (tCons tb tNil)) := pa_cons h (pa_cons h2 pa_nil hs2) hs
theorem tup_ {k1 : Nat} (h : SA X es fr) : SE X (.Tuple es k1 pos) (eTup fr) := se_tup h
theorem lst_ (h : SA X es fr) : SE X (.List es pos) (eLst fr) := se_lst h
/-! subscripts -/
theorem ix_ (ha : SE X a fa) (hb : SE X b fb) (hs : PlainIx b := by exact fun _ _ => rfl) : SE X (.Subscript a b pos) (eBin ixF fa fb) := se_ix ix_seq ixU ha hb hs
theorem sl_ {lo hi : Option Expr} {fl fh : O} (ha : SE X a fa) (hl : PO X lo (tO X.K fl)) (hh : PO X hi (tO X.K fh)) : SE X (.Subscript a (.Slice lo hi none p2) pos) (eSl fa fl fh) := se_slice (pos := pos) (p2 := p2) ha hl hh (pe_slice ((sl_list.or sl_tupN).or sl_str) ha hl hh)
theorem o0 : PO X none (tO X.K oNone) := so_none
theorem o1 (h : SE X e fa) : PO X (some e) (tO X.K (oSome fa)) := so_some h
/-! built-in functions -/
theorem len_ (hm : X.mg "len" = none) (ha : SE X a fa) (hg : Gl X "len" := by rfl) (hs : starEach [a] X.env = (false, eval a X.env) :: starEach [] X.env := by rfl) (hpl : (backTo pos (starEach [] X.env)).any (·.1) = false := by rfl) : SE X (.Call (.Name "len" p) [a] [] pos) (eUn lenF fa) :=
  se_b1 (pe_callB call_lenU hg hm PySem.boot_len (pa1 ha hs) (by decide) (by decide) hs hpl) lenU
theorem abs_ (hm : X.mg "abs" = none) (ha : SE X a fa) (hg : Gl X "abs" := by rfl) (hs : starEach [a] X.env = (false, eval a X.env) :: starEach [] X.env := by rfl) (hpl : (backTo pos (starEach [] X.env)).any (·.1) = false := by rfl) : SE X (.Call (.Name "abs" p) [a] [] pos) (eUn absF fa) :=
  se_b1 (pe_callB call_abs hg hm (by decide +kernel) (pa1 ha hs) (by decide) (by decide) hs hpl) absU
theorem all_ (hm : X.mg "all" = none) (ha : SE X a fa) (hc : X.calm = true := by rfl) (hg : Gl X "all" := by rfl) (hs : starEach [a] X.env = (false, eval a X.env) :: starEach [] X.env := by rfl) (hpl : (backTo pos (starEach [] X.env)).any (·.1) = false := by rfl) : SE X (.Call (.Name "all" p) [a] [] pos) (eUn allF fa) :=
  se_b1 (pe_callB (cr_all hc) hg hm (by decide +kernel) (pa1 ha hs) (by decide) (by decide) hs hpl) allU
theorem any_ (hm : X.mg "any" = none) (ha : SE X a fa) (hc : X.calm = true := by rfl) (hg : Gl X "any" := by rfl) (hs : starEach [a] X.env = (false, eval a X.env) :: starEach [] X.env := by rfl) (hpl : (backTo pos (starEach [] X.env)).any (·.1) = false := by rfl) : SE X (.Call (.Name "any" p) [a] [] pos) (eUn anyF fa) :=
  se_b1 (pe_callB (cr_any hc) hg hm (by decide +kernel) (pa1 ha hs) (by decide) (by decide) hs hpl) anyU
theorem int_ (hm : X.mg "int" = none) (ha : SE X a fa) (hg : Gl X "int" := by rfl) (hs : starEach [a] X.env = (false, eval a X.env) :: starEach [] X.env := by rfl) (hpl : (backTo pos (starEach [] X.env)).any (·.1) = false := by rfl) : SE X (.Call (.Name "int" p) [a] [] pos) (eUn intF fa) :=
  se_b1 (pe_callTy call_int1 hg hm (by decide +kernel) (pa1 ha hs) (by decide) (by decide) hs hpl) intU
theorem list_ (hm : X.mg "list" = none) (ha : SE X a fa) (hg : Gl X "list" := by rfl) (hs : starEach [a] X.env = (false, eval a X.env) :: starEach [] X.env := by rfl) (hpl : (backTo pos (starEach [] X.env)).any (·.1) = false := by rfl) : SE X (.Call (.Name "list" p) [a] [] pos) (eUn listF fa) :=
  se_b1 (pe_callTy call_list_of hg hm (by decide +kernel) (pa1 ha hs) (by decide) (by decide) hs hpl) listU
theorem tuple_ (hm : X.mg "tuple" = none) (ha : SE X a fa) (hg : Gl X "tuple" := by rfl) (hs : starEach [a] X.env = (false, eval a X.env) :: starEach [] X.env := by rfl) (hpl : (backTo pos (starEach [] X.env)).any (·.1) = false := by rfl) : SE X (.Call (.Name "tuple" p) [a] [] pos) (eUn tupF fa) :=
  se_b1 (pe_callTy call_tuple_ofN hg hm (by decide +kernel) (pa1 ha hs) (by decide) (by decide) hs hpl) tupU
theorem bt_ {t : Ty} (hm : X.mg t.nm = none) (hg : Gl X t.nm := by rfl) : PE X (.Name t.nm p) (tC (.ty t.nm)) := by
  cases t <;> exact pe_bltn hg hm (u := .type _) (by decide +kernel) rfl
theorem isi_ (t : Ty) (hm : X.mg "isinstance" = none) (ht : PE X b (tC (.ty t.nm))) (ha : SE X a fa) (hg : Gl X "isinstance" := by rfl) (hs : starEach [a, b] X.env = (false, eval a X.env) :: starEach [b] X.env := by rfl)
    (hs2 : starEach [b] X.env = (false, eval b X.env) :: starEach [] X.env := by rfl) (hpl : (backTo pos (starEach [b] X.env)).any (·.1) = false := by rfl) : SE X (.Call (.Name "isinstance" p) [a, b] [] pos) (eUn (isiF t) fa) :=
  se_isi (pe_callB call_isi hg hm (by decide +kernel) (pa2 ha ht hs hs2) (by decide) (by decide) hs hpl)
/-! methods -/
theorem app_ (h0 : PE X e (tBM X.K "list" rAppend (tE X.K fa) (tCons (tE X.K fb) tNil))) : SE X e (eMt1 "list" appF fa fb) := se_mt1 h0 appU
theorem pop_ (h0 : PE X e (tBM X.K "list" rPopAt (tE X.K fa) (tCons (tE X.K fb) tNil))) : SE X e (eMt1 "list" popF fa fb) := se_mt1 h0 popU.n
theorem pop0_ (h0 : PE X e (tBM0 X.K "list" rPop (tE X.K fa))) : SE X e (eMt0 "list" pop0F fa) := se_mt0 h0 pop0U
theorem ext_ (h0 : PE X e (tBM X.K "list" rExtend (tE X.K fa) (tCons (tE X.K fb) tNil))) : SE X e (eMt1 "list" extF fa fb) := se_mt1 h0 extU.n
theorem join_ (h0 : PE X e (tBM X.K "str" (rJoinU X.K) (tE X.K fa) (tCons (tE X.K fb) tNil))) : SE X e (eMt1 "str" joinF fa fb) := se_mt1 h0 joinU.n
/-! walks -/
theorem rg1_ {tg : Expr} (hm : X.mg "range" = none) (ha : SE X a fa) (hg : Gl X "range" := by rfl) (hs : starEach [a] X.env = [(false, eval a X.env)] := by rfl) : SI X tg (.Call (.Name "range" p) [a] [] pos) (iRg1 fa) := si_rg1 (pi_range1 hg hm (pa_cons ha pa_nil hs) hs)
theorem rg2_ {tg : Expr} (hm : X.mg "range" = none) (ha : SE X a fa) (hb : SE X b fb) (hg : Gl X "range" := by rfl) (hs : starEach [a, b] X.env = [(false, eval a X.env), (false, eval b X.env)] := by rfl) (hs2 : starEach [b] X.env = [(false, eval b X.env)] := by rfl)
    (hs3 : starEach [a, b] X.env = (false, eval a X.env) :: starEach [b] X.env := by rfl) : SI X tg (.Call (.Name "range" p) [a, b] [] pos) (iRg2 fa fb) := si_rg2 (pi_range2 hg hm (pa_cons ha (pa_cons hb pa_nil hs2) hs3) hs hs2)
theorem we {tg : Expr} (h : SE X e fa) : SI X tg e (iE fa) := si_e h
/-! targets -/
theorem nm_ (i : Nat) {x : Str} {pos : Pos} (hN : X.N.Nodup) (hi : X.N[i]? = some x := by rfl) (hx : Loc X.env.scope x := by first | exact .inl rfl | exact .inr rfl) (hf : X.fn x = true ∨ X.env.scope.names.lookup x = some .local := by first | exact .inl rfl | exact .inr rfl) : PG X (.Name x pos) (gName i) := pg_name hN hi hx hf
end
/-! ### a def of the top -/
def Df (K : PySem.W.Frag) (mg : Str → Option Value) (x : Str) (st : Stmt) : Prop := ∃ (f : Addr) (fd : FuncData), mg x = some (.ref f) ∧ Fun K x x st f fd
structure Callee (P : Program) (w : World) (K : PySem.W.Frag) (mg : Str → Option Value) (base : Heap) (k : Nat) (x : Str) (n : Nat) (F : Fn) : Prop where
  ex : ∃ (f : Addr) (fd : FuncData) (ps : List Str), FnOk P w K mg base CX0 k f fd ps (spF K n F) ∧ mg x = some (.ref f) ∧ PySem.W.keepIn K (.ref f) = true ∧ Binds K fd ps []
  len : ∀ ds m r, F ds m = some r → ds.length = n
section
variable {P : Program} {w : World} {K : PySem.W.Frag} {mg : Str → Option Value} {base : Heap}
theorem mkC {x : Str} {st : Stmt} {N ps : List Str} {k : Nat} {body : S} {np ns : Nat} (d : Df K mg x st) (Sc : FnScope N ps (defScope st)) (hp : ps.length = np) (hn : N.length = ns)
    (hb : ∀ (kV doc pm : Value) (an : Option Addr) (cdv ct : Value) (us : List Value), us.length = ps.length → bindArgs (PySem.W.fnOf x x (defArgs st) (defBody st) (defScope st) .none kV doc pm an cdv ct) ⟨us, []⟩ = pure (ps.zip us))
    (h : ∀ (f : Addr) (cdv : Value) (A : Around) (outer : List PySem.Env) (s : Shared) (H : Hp) (E : XK), Room k (A.deeper (PyProof.Rows.envOfC x (defScope st) s.heap.objs.size f cdv)) → SSs (cxOf CX0 P w K mg base N x (defScope st) f cdv A outer s H E).nox (defBody st) body) :
    Callee P w K mg base (k + 1) x np (fnD np ns body) := by
  obtain ⟨f, fd, e, F⟩ := d
  exact ⟨⟨f, fd, ps, fn_ok F Sc hp hn (h f), e, F.kp, F.binds hb⟩, fnD_len⟩
theorem call_ {X : Cx} {e : Expr} {es : List Expr} {pos p : Pos} {x : Str} {k j n : Nat} {F : Fn} {fr : A} (c : Callee X.prog X.w X.K X.mg X.base k x n F) (hr : Room j X.A) (hk : k ≤ j) (ha : SA X (e :: es) fr) (hg : Gl X x := by rfl)
    (hdb : (x == ("__debug__" : Str)) = false := by decide) (he : starEach (e :: es) X.env = (false, eval e X.env) :: starEach es X.env := by rfl) (hpl : (backTo pos (starEach es X.env)).any (·.1) = false := by rfl) : SE X (.Call (.Name x p) (e :: es) [] pos) (eCall F fr) := by
  obtain ⟨f, fd, ps, h1, h2, h3, h4⟩ := c.ex
  exact se_call (pe_call h1 (hr.mono hk) hg h2 h3 h4 .nil pass0 ha hdb he hpl) c.len
end
end Q
namespace Q
open PySem L2
/-! ### the end of a law -/
theorem df_mk {K : PySem.W.Frag} {h : Heap} {mg : Str → Option Value} {x : Str} {st : Stmt} {f : Addr} {oc : Value} {od an : Option Addr} {osl : Array (Option Value)} {kV doc pm cdv ct : Value} (X : K.In h) (G : h.Ns mainGlobals mg)
    (a : PySem.W.nsIn K mainGlobals x = some (some (.ref f))) (l : K.lookup f = some ⟨oc, od, .func (PySem.W.fnOf x x (defArgs st) (defBody st) (defScope st) .none kV doc pm an cdv ct), osl⟩) (c : PySem.W.codeIn K cdv x = true) (k : PySem.W.keepIn K (.ref f) = true) : Df K mg x st :=
  ⟨f, _, PySem.W.mg_of X G a, fun_mk (st := st) l c k⟩
theorem law_sp {K : PySem.W.Frag} {F : Fn} (h : ∀ ns : List Int, ns.length ≤ 63 → ∃ m', F [.fl (ns.map .int)] [] = some (.v (.bl true), m')) (H : Hp) (a : Addr) (ns : List Int) (hl : ns.length ≤ 63) (hO : Only H) (hS : SqL K H a (ns.map V.int)) (E : XK) :
    spF K 1 F [.ref a] H (fun v _ => v = .bl true) E := by
  obtain ⟨m', e⟩ := h ns hl
  have fl : FlAt K H a (ns.map V.int) := by
    rcases hS with (q | ⟨o, q⟩) | q
    · rcases hO a with z | ⟨o, xs, z⟩
      · rw [z] at q; cases q
      · rw [z] at q; cases q
    · exact .inl ⟨o, q⟩
    · exact .inr q
  refine ⟨[], [.fl (ns.map .int)], [], .v (.bl true), m', rfl, .cons (.fl fl (RVs.ints ns)) .nil, ⟨by simp, rfl, fun n b hb => by simp at hb⟩, e, fun v ι' H' _ _ ro => ?_⟩
  cases ro
  rfl
theorem okLaw {P : Program} {w : World} {K : PySem.W.Frag} {mg : Str → Option Value} {base : Heap} {x : Str} {st : Stmt} {f : Addr} {fd : FuncData} {N ps : List Str} {k : Nat} {body : S} {np ns : Nat} (F : Fun K x x st f fd) (Sc : FnScope N ps (defScope st)) (hp : ps.length = np) (hn : N.length = ns)
    (h : ∀ (f : Addr) (cdv : Value) (A : Around) (outer : List PySem.Env) (s : Shared) (H : Hp) (E : XK), Room k (A.deeper (PyProof.Rows.envOfC x (defScope st) s.heap.objs.size f cdv)) → SSs (cxOf CX0 P w K mg base N x (defScope st) f cdv A outer s H E).nox (defBody st) body) :
    FnOk P w K mg base CX0 (k + 1) f fd ps (spF K np (fnD np ns body)) := fn_ok F Sc hp hn (h f)
end Q
namespace Q
open PySem L2

/-! ### lists that stand while they are walked -/
def lsrc (x : Out) (m : Mem) : Option Src := match x with
  | .v (.fl a) => some ⟨a, []⟩
  | .v (.ref n) => (match m[n]? with | some (.lst a) => some ⟨a, [(n, .lst a)]⟩ | _ => none)
  | .o (.lst a) => some ⟨a, []⟩
  | _ => none
theorem lsrc_at {K : PySem.W.Frag} {ι : List Addr} {H H0 : Hp} {m : Mem} {x : Out} {v : V} {s : Src} (rm : RM K ι H m) (ro : RO K H0 ι H x v) (h : lsrc x m = some s) :
    ∃ a vs, v = .ref a ∧ SqL K H a vs ∧ RVs K ι H s.items vs ∧ ∀ ι2 H2 m2, Le ι H ι2 H2 → RM K ι2 H2 m2 → chk s.live m2 → ∃ ws, SqL K H2 a ws ∧ RVs K ι2 H2 s.items ws := by
  unfold lsrc at h
  split at h
  · cases h
    cases ro with
    | fl hs r => exact ⟨_, _, rfl, hs.sq, r, fun ι2 H2 m2 l2 rm2 _ => ⟨_, (l2.k.rdF hs).sq, r.mono l2⟩⟩
  · split at h
    · rename_i n _ xs hm; cases h
      cases ro with
      | ref e2 =>
        obtain ⟨a, e3, vs, e4, r⟩ := rm.ob _ _ hm
        rw [e2] at e3; cases e3
        refine ⟨_, vs, rfl, .inl (.inl e4), r, fun ι2 H2 m2 l2 rm2 hc => ?_⟩
        have hm2 : m2[n]? = some (.lst xs) := hc (n, .lst xs) (by simp)
        obtain ⟨a', e5, vs', e6, r'⟩ := rm2.ob _ _ hm2
        rw [l2.ix e2] at e5; cases e5
        exact ⟨vs', .inl (.inl e6), r'⟩
    · cases h
  · cases h
    obtain ⟨p, e2, e3, hi, vs, e4, r⟩ := ro
    subst e2
    exact ⟨_, vs, rfl, .inl (.inl e4), r, fun ι2 H2 m2 l2 rm2 _ => ⟨_, .inl (.inl (l2.keep _ _ e4 (.inr hi))), r.mono l2⟩⟩
  · cases h
/-! ### zip -/
def zipD : List D → List D → List D
  | x :: xs, y :: ys => .par [x, y] :: zipD xs ys
  | _, _ => []
theorem zipD_len : ∀ (xs ys : List D), (zipD xs ys).length = min xs.length ys.length
  | [], _ => by simp [zipD]
  | _ :: _, [] => by simp [zipD]
  | x :: xs, y :: ys => by simp [zipD, zipD_len xs ys]
theorem zipD_get : ∀ {xs ys : List D} {i : Nat} {d : D}, (zipD xs ys)[i]? = some d → ∃ x y, xs[i]? = some x ∧ ys[i]? = some y ∧ d = .par [x, y]
  | [], _, _, _, h => by simp [zipD] at h
  | _ :: _, [], _, _, h => by simp [zipD] at h
  | x :: xs, y :: ys, 0, d, h => by simp [zipD] at h; exact ⟨x, y, rfl, rfl, h.symm⟩
  | x :: xs, y :: ys, i + 1, d, h => by
    obtain ⟨a, b, e1, e2, e3⟩ := zipD_get (xs := xs) (ys := ys) (i := i) (d := d) (by simpa [zipD] using h)
    exact ⟨a, b, by simpa using e1, by simpa using e2, e3⟩
def zipOf (x y : Out) (m : Mem) : Option Src := match x, y with
  | .v (.tup a), .v (.tup b) => some ⟨zipD a b, []⟩
  | x, y => (lsrc x m).bind fun s => (lsrc y m).bind fun t => some ⟨zipD s.items t.items, s.live ++ t.live⟩
@[simp] def iZip (a b : E) (ρ : Env) (m : Mem) : Option (Src × Mem) := (a ρ m).bind fun x => (b ρ x.2).bind fun y => (zipOf x.1 y.1 y.2).bind fun s => some (s, y.2)
theorem chk_app {l1 l2 : List (Nat × Ob)} {m : Mem} (h : chk (l1 ++ l2) m) : chk l1 m ∧ chk l2 m := ⟨fun p hp => h p (List.mem_append_left _ hp), fun p hp => h p (List.mem_append_right _ hp)⟩
theorem si_zip {X : Cx} {tg e : Expr} {fa fb : E} (h : PI X tg e (RZ.iZipA X.K (tCons (tE X.K fa) (tCons (tE X.K fb) tNil)))) : SI X tg e (iZip fa fb) := pi_imp h fun σ H R ⟨ι, ρ, m, s, m', rs, rm, hf, k⟩ => by
  obtain ⟨x, h1, hf⟩ := bind_some hf
  obtain ⟨y, h2, hf⟩ := bind_some hf
  obtain ⟨s', h3, hf⟩ := bind_some hf
  cases hf
  refine ⟨ι, ρ, m, x.1, x.2, rs, rm, h1, fun v ι1 H1 l1 rm1 ro1 bd1 => ?_⟩
  refine ⟨ι1, ρ, x.2, y.1, y.2, rs.mono l1, rm1, h2, fun u ι2 H2 l2 rm2 ro2 bd2 => ?_⟩
  have ro1 := ro1.mono l2
  unfold zipOf at h3
  split at h3
  · rename_i a b e1 e2; cases h3
    rw [e1] at ro1
    rw [e2] at ro2
    cases ro1 with
    | tup hs r =>
      cases ro2 with
      | tup hs2 r2 =>
        refine ⟨_, _, _, _, rfl, .inr ⟨hs.sq, hs2.sq, fun bd => k _ ι2 H2 (l1.tr rm1 l2) rm2 ?_ bd ?_⟩⟩
        · intro ι3 H3 m3 i l3 rm3 _
          have hs' := (l3.k.rdT hs).sq
          have hs2' := (l3.k.rdT hs2).sq
          have r' := r.mono l3
          have r2' := r2.mono l3
          refine ⟨fun hl => ⟨_, _, hs', hs2', ?_⟩, fun d hd => ?_⟩
          · rw [show (⟨zipD a b, []⟩ : Src).items = zipD a b from rfl, zipD_len] at hl
            rw [← r.length, ← r2.length]; omega
          · obtain ⟨d1, d2, g1, g2, rfl⟩ := zipD_get hd
            obtain ⟨v1, w1, q1⟩ := r'.get g1
            obtain ⟨v2, w2, q2⟩ := r2'.get g2
            refine ⟨⟨_, _, v1, v2, hs', hs2', w1, w2⟩, fun z H4 hy => ?_⟩
            obtain ⟨T, z1, z2, rfl, hT, rfl, y1, y2⟩ := hy
            have y1 := y1 _ hs'
            have y2 := y2 _ hs2'
            rw [w1] at y1; cases y1
            rw [w2] at y2; cases y2
            exact ⟨Le.newAt hT, rm3.newAt hT, new_par hT (.cons q1 (.cons q2 .nil))⟩
        · show (zipD a b).length ≤ _
          rw [zipD_len]
          have := bd2 _ _ (.inr hs.sq)
          rw [← r.length] at this
          omega
  · obtain ⟨s1, h4, h3⟩ := bind_some h3
    obtain ⟨s2, h5, h3⟩ := bind_some h3
    cases h3
    obtain ⟨a1, vs1, rfl, q1, r1, k1⟩ := lsrc_at (m := y.2) rm2 ro1 h4
    obtain ⟨a2, vs2, rfl, q2, r2, k2⟩ := lsrc_at rm2 ro2 h5
    refine ⟨_, _, _, _, rfl, .inl ⟨q1, q2, fun bd => k _ ι2 H2 (l1.tr rm1 l2) rm2 ?_ bd ?_⟩⟩
    · intro ι3 H3 m3 i l3 rm3 hc
      obtain ⟨hc1, hc2⟩ := chk_app hc
      obtain ⟨w1, hs', r'⟩ := k1 ι3 H3 m3 l3 rm3 hc1
      obtain ⟨w2, hs2', r2'⟩ := k2 ι3 H3 m3 l3 rm3 hc2
      refine ⟨fun hl => ⟨_, _, hs', hs2', ?_⟩, fun d hd => ?_⟩
      · rw [show (⟨zipD s1.items s2.items, s1.live ++ s2.live⟩ : Src).items = zipD s1.items s2.items from rfl, zipD_len] at hl
        rw [← r'.length, ← r2'.length]; omega
      · obtain ⟨d1, d2, g1, g2, rfl⟩ := zipD_get hd
        obtain ⟨v1, w1, q1⟩ := r'.get g1
        obtain ⟨v2, w2, q2⟩ := r2'.get g2
        refine ⟨⟨_, _, v1, v2, hs', hs2', w1, w2⟩, fun z H4 hy => ?_⟩
        obtain ⟨T, z1, z2, rfl, hT, rfl, y1, y2⟩ := hy
        have y1 := y1 _ hs'
        have y2 := y2 _ hs2'
        rw [w1] at y1; cases y1
        rw [w2] at y2; cases y2
        exact ⟨Le.newAt hT, rm3.newAt hT, new_par hT (.cons q1 (.cons q2 .nil))⟩
    · show (zipD s1.items s2.items).length ≤ _
      rw [zipD_len]
      have := bd2 _ _ (.inl q1)
      rw [← r1.length] at this
      omega


/-! ### range as a thing -/
@[simp] noncomputable def eRg1 (mk : List D → Out) (a : E) (ρ : Env) (m : Mem) : Option (Out × Mem) := (a ρ m).bind fun x => match x.1 with
  | .v (.int j) => if rgOk j then some (mk (upto 0 j.toNat), x.2) else none
  | _ => none
@[simp] noncomputable def eRg2 (mk : List D → Out) (a b : E) (ρ : Env) (m : Mem) : Option (Out × Mem) := (a ρ m).bind fun x => (b ρ x.2).bind fun y => match x.1, y.1 with
  | .v (.int i), .v (.int j) => if rg2Ok i j then some (mk (upto i (j - i).toNat), y.2) else none
  | _, _ => none
def mkL (xs : List D) : Out := .o (.lst xs)
def mkT (xs : List D) : Out := .v (.tup xs)
theorem RVs.upto {K : PySem.W.Frag} {ι : List Addr} {H : Hp} (i j : Int) : RVs K ι H (upto i (j - i).toNat) (rgV i j) := by
  unfold Q.upto rgV
  induction (List.range (j - i).toNat) with
  | nil => exact .nil
  | cons a r ih => exact .cons (.int _) ih
theorem rgOk1 {j : Int} (h : rgOk j) : RgOk 0 j := by
  obtain ⟨h1, h2⟩ := h
  exact ⟨by omega, by omega, by omega, by omega, by omega⟩
theorem rgOk2 {i j : Int} (h : rg2Ok i j) : RgOk i j := by
  obtain ⟨h1, h2, h3, h4, h5⟩ := h
  exact ⟨by omega, by omega, by omega, by omega, by omega⟩
section
variable {X : Cx} {e : Expr} {fa fb : E}
theorem se_lrg1 (h0 : PE X e (tLstRg (tRg1 (tE X.K fa)))) : SE X e (eRg1 mkL fa) := pe_imp h0 fun σ H Q ⟨ι, ρ, m, z, m', rs, rm, hf, k⟩ => by
  obtain ⟨x, h1, hf⟩ := bind_some hf
  split at hf
  · rename_i j e1
    split at hf
    · rename_i hj; cases hf
      refine ⟨ι, ρ, m, x.1, x.2, rs, rm, h1, fun v ι1 H1 l1 rm1 ro1 bd1 => ?_⟩
      rw [e1] at ro1; cases ro1
      have r : RVs X.K ι1 H1 _ _ := RVs.upto 0 j
      rw [Int.sub_zero] at r
      exact ⟨_, rfl, rgOk1 hj, fun q hq bd => k _ ι1 _ (l1.tr rm1 (Le.newAt hq)) (rm1.newAt hq) ((new_lst rm1 hq r).from l1 rm1) bd⟩
    · cases hf
  · cases hf
theorem se_trg1 (h0 : PE X e (tTupRgN (tRg1 (tE X.K fa)))) : SE X e (eRg1 mkT fa) := pe_imp h0 fun σ H Q ⟨ι, ρ, m, z, m', rs, rm, hf, k⟩ => by
  obtain ⟨x, h1, hf⟩ := bind_some hf
  split at hf
  · rename_i j e1
    split at hf
    · rename_i hj; cases hf
      refine ⟨ι, ρ, m, x.1, x.2, rs, rm, h1, fun v ι1 H1 l1 rm1 ro1 bd1 => ?_⟩
      rw [e1] at ro1; cases ro1
      have r : RVs X.K ι1 H1 _ _ := RVs.upto 0 j
      rw [Int.sub_zero] at r
      exact ⟨_, rfl, rgOk1 hj, fun q o hq ho bd => k _ ι1 _ (l1.tr rm1 (Le.newAt hq)) (rm1.newAt hq) (new_tup hq ho r) bd⟩
    · cases hf
  · cases hf
theorem se_lrg2 (h0 : PE X e (tLstRg (tRg2 (tE X.K fa) (tE X.K fb)))) : SE X e (eRg2 mkL fa fb) := pe_imp h0 fun σ H Q ⟨ι, ρ, m, z, m', rs, rm, hf, k⟩ => by
  obtain ⟨x, h1, hf⟩ := bind_some hf
  obtain ⟨y, h2, hf⟩ := bind_some hf
  split at hf
  · rename_i i j e1 e2
    split at hf
    · rename_i hj; cases hf
      refine ⟨ι, ρ, m, x.1, x.2, rs, rm, h1, fun v ι1 H1 l1 rm1 ro1 bd1 => ?_⟩
      refine ⟨ι1, ρ, x.2, y.1, y.2, rs.mono l1, rm1, h2, fun u ι2 H2 l2 rm2 ro2 bd2 => ?_⟩
      rw [e1] at ro1; cases ro1
      rw [e2] at ro2; cases ro2
      exact ⟨_, _, rfl, rfl, rgOk2 hj, fun q hq bd => k _ ι2 _ (l1.tr rm1 (l2.tr rm2 (Le.newAt hq))) (rm2.newAt hq) ((new_lst rm2 hq (RVs.upto i j)).from (l1.tr rm1 l2) rm2) bd⟩
    · cases hf
  · cases hf
theorem se_trg2 (h0 : PE X e (tTupRgN (tRg2 (tE X.K fa) (tE X.K fb)))) : SE X e (eRg2 mkT fa fb) := pe_imp h0 fun σ H Q ⟨ι, ρ, m, z, m', rs, rm, hf, k⟩ => by
  obtain ⟨x, h1, hf⟩ := bind_some hf
  obtain ⟨y, h2, hf⟩ := bind_some hf
  split at hf
  · rename_i i j e1 e2
    split at hf
    · rename_i hj; cases hf
      refine ⟨ι, ρ, m, x.1, x.2, rs, rm, h1, fun v ι1 H1 l1 rm1 ro1 bd1 => ?_⟩
      refine ⟨ι1, ρ, x.2, y.1, y.2, rs.mono l1, rm1, h2, fun u ι2 H2 l2 rm2 ro2 bd2 => ?_⟩
      rw [e1] at ro1; cases ro1
      rw [e2] at ro2; cases ro2
      exact ⟨_, _, rfl, rfl, rgOk2 hj, fun q o hq ho bd => k _ ι2 _ (l1.tr rm1 (l2.tr rm2 (Le.newAt hq))) (rm2.newAt hq) (new_tup hq ho (RVs.upto i j)) bd⟩
    · cases hf
  · cases hf
end
end Q
namespace Q
open PySem L2
/-! ### enumerate of a tuple -/
theorem meets_enumB1 {v : Value} {o : Obj} {H : Heap → Prop} (B : Begins v o H) :
    Meets (Builtin.«enumerate.__new__» ⟨[.type "enumerate", v], []⟩) (fun _ R s => H s.heap ∧
      R (.ok (.ret (.ref (s.heap.push o).objs.size))) { s with heap := (s.heap.push o).push { cls := .type "enumerate", data := .fields #[.none, .bool false, .ref s.heap.objs.size, rawInt 0, .none, .none] } }) :=
  .of_wp fun prog w A R s h => by
    obtain ⟨hp, g, d, tk, os⟩ := s; obtain ⟨h1, h⟩ := h
    have hsub := sub_enumerate
    have q1 : ∀ {A' : Around} {E : Value → Shared → Prop} {Q : Value → Shared → Prop}, Q (.ref hp.objs.size) ⟨hp.push o, g, d, tk, os⟩ → wpAny (model prog w) A' (pyIter v) Q E ⟨hp, g, d, tk, os⟩ :=
      fun q => B.iter prog w _ _ ⟨hp, g, d, tk, os⟩ _ h1 q
    wp_walk using q1
    refine wpAny_stack_any fun st => wpAny_pure ?_
    split
    · rename_i c _ _ _ _ _
      cases (c == Value.type "enumerate")
      · wp_walk using q1
        exact ⟨_, rfl, h⟩
      · wp_walk using q1
        exact ⟨_, rfl, h⟩
    · wp_walk using q1
      exact ⟨_, rfl, h⟩
theorem call_enumB1 {prog : Program} {w : World} {A : Around} {E : Value → Shared → Prop} {s : Shared} {v : Value} {o : Obj} {H : Heap → Prop} {Q : Value → Shared → Prop} (B : Begins v o H) (h1 : H s.heap)
    (h : ∀ h', IsEnum h' (s.heap.objs.size + 1) s.heap.objs.size 0 .none → h'.get? s.heap.objs.size = some o → h'.objs.size = s.heap.objs.size + 2 →
      (∀ b o, s.heap.get? b = some o → h'.get? b = some o) → Q (.ref (s.heap.objs.size + 1)) { s with heap := h' }) :
    wpAny (model prog w) A (call (.type "enumerate") [v]) Q E s := by
  refine callType_new F.called_enumerate (by decide) (F.typeCall_enumerate_1 _) (F.newCall_enumerate_1 _) (fun obj => F.args_object_init_2 obj _) F.entry_enumerate_new
    (meets_enumB1 B) ⟨h1, ?_⟩
  have hz : (s.heap.push o).objs.size = s.heap.objs.size + 1 := Heap.size_push ..
  show _ ∧ _
  rw [hz]
  have he : IsEnum ((s.heap.push o).push { cls := .type "enumerate", data := .fields #[.none, .bool false, .ref s.heap.objs.size, rawInt 0, .none, .none] }) (s.heap.objs.size + 1) s.heap.objs.size 0 .none := by
    have := Heap.get?_push_size (s.heap.push o) (o := { cls := .type "enumerate", data := .fields #[.none, .bool false, .ref s.heap.objs.size, rawInt 0, .none, .none] }) rfl
    rw [hz] at this; exact this
  refine ⟨⟨_, he, rfl⟩, h _ he (Heap.get?_push_of_some _ (Heap.get?_push_size _ B.free)) (by rw [Heap.size_push, hz]) fun b o x => Heap.get?_push_of_some _ (Heap.get?_push_of_some _ x)⟩
theorem draws_end {prog : Program} {w : World} {A : Around} {it t : Addr} {items : Array Value} {i : Nat} (hh : A.handled = none) (hx : items[i]? = none) :
    Draws prog w A it [it, t] i (fun _ _ => False) (fun j h => j = i ∧ h.IsTupleIter it t i ∧ h.IsTuple t items) where
  live := fun _ _ st => let ⟨o, ho, _⟩ := st.2.1; ⟨o, ho⟩
  frame := fun _ _ _ st hk => ⟨st.1, st.2.1.at fun o e => hk it (by simp) o e, st.2.2.at fun o e => hk t (by simp) o e⟩
  item := fun j s Q E hi st hQ => absurd st.1 (Nat.ne_of_lt hi)
  done := fun s Q E st hE => wpAny_nextOf_tuple_end hh st.2.1 st.2.2 hx hE
/-- the tuple at a, each item in a new pair -/
def IteT (K : PySem.W.Frag) (a : Addr) : It :=
  ⟨fun i H => ∃ (xs : List V) (x : V), SqT K H a xs ∧ xs[i]? = some x, fun i H v H' => ∃ T x, v = .ref T ∧ H T = none ∧ H' = upd H T (.tup [.int (i : Nat), x]) ∧ ∀ xs, SqT K H a xs → xs[i]? = some x, fun i H => ∃ xs : List V, SqT K H a xs ∧ xs.length ≤ i⟩
theorem turn_enumT {P : Program} {w : World} {K : PySem.W.Frag} {elts : List Expr} {kk : Nat} {tpos : Pos} (a e it : Addr) :
    Turn P w K (.Tuple elts kk tpos) (IteT K a) [e, it] e (fun i h => (∃ old, IsEnum h e it ((i : Nat) : Int) old) ∧ h.IsTupleIter it a i ∧ e ≠ it ∧ a ≠ it ∧ e ≠ a) where
  mem := by simp
  obj := fun i h st b hb => by
    obtain ⟨⟨old, he⟩, ⟨o, ho, hc, hd⟩, _⟩ := st
    have e' : b = e ∨ b = it := by simpa using hb
    rcases e' with z | z
    · rw [z]; exact ⟨_, he, fun v q => nomatch q⟩
    · rw [z]; exact ⟨o, ho, fun v q => by rw [hd] at q; cases q⟩
  keep := fun i h h' st k => let ⟨⟨old, he⟩, hi, hne⟩ := st; ⟨⟨old, k e (by simp) _ he⟩, hi.at fun o q => k it (by simp) o q, hne⟩
  item := by
    intro X hP hw hK hc i pins s σ H E I hf st hg
    subst hP hw hK
    obtain ⟨⟨old, he⟩, hit, hne, hai, hea⟩ := st
    obtain ⟨xs, x, hq, hx⟩ := hg
    obtain ⟨its, rv, p, hz⟩ := I.tuple hq
    obtain ⟨u, hu, ru⟩ := rv.get hx
    have hel : e < s.heap.objs.size := Heap.lt_size he
    have hil : it < s.heap.objs.size := by obtain ⟨_, q, _⟩ := hit; exact Heap.lt_size q
    have hlt : i < its.toArray.size := by
      rw [List.size_toArray]
      exact (List.getElem?_eq_some_iff.mp hu).1
    have hA : X.A.in1.handled = none := by
      have := I.ok.hd hc
      simp [this]
    refine wpAny_pyNext_enum_itemD (Draws.tuple (items := its.toArray) hA it a hai) he ⟨hit, p⟩ hlt hne (by simp; exact ⟨hne, hea⟩) fun y h' tk hP ho hst' hT hsz hk => ?_
    have ey : y = u := by
      have : its.toArray[i]? = some u := by simpa using hu
      rw [this] at hP
      exact (Option.some.inj hP).symm
    subst ey
    have hit' := hst'.1
    refine ⟨_, rfl, wpAny_letOwnedTupleGo_enum (s := { s with heap := h', toks := tk + 1 }) ho fun h'' he' sb => ?_⟩
    have hT2 : h''.get? s.heap.objs.size = some { cls := .type "tuple", data := .seq #[.int i tk, y] } := (sb.2 _ (Nat.ne_of_gt hel)).trans hT
    have new : ObjOk X.prog X.w (upd H s.heap.objs.size (.tup [.int (i : Nat), x])) h'' s.heap.objs.size (.tup [.int (i : Nat), x]) :=
      ⟨by show 2 ≤ sizeLine; decide, [.int i tk, y], .cons ⟨_, rfl⟩ (.cons ru .nil), ⟨_, hT2, rfl, _, rfl⟩⟩
    have I1 : Inv X pins σ (upd H s.heap.objs.size (.tup [.int (i : Nat), x])) { s with heap := h'', toks := tk + 1 } :=
      I.turnedNew (ch := [e, it]) (fun b ob hb q => (sb.2 b (fun z => hb (by simp [z]))).trans (hk b ob (fun z => hb (by simp [z])) (fun z => hb (by simp [z])) q)) hf (Nat.le_refl _) new
    refine ⟨.ref s.heap.objs.size, _, I1, rfl, ⟨_, x, rfl, I.hok.fresh (Nat.le_refl _), rfl, fun ys hy => by rw [I.tuple_inj hy hq]; exact hx⟩, ⟨⟨y, ?_⟩, hit'.at fun o q => (sb.2 it (Ne.symm hne)).trans q, hne, hai, hea⟩, fun b hb => ?_⟩
    · have e1 : ((i + 1 : Nat) : Int) = (i : Int) + 1 := by omega
      rw [e1]; exact he'
    · have hb' : b < s.heap.objs.size := by
        have e' : b = e ∨ b = it := by simpa using hb
        rcases e' with z | z
        · rw [z]; exact hel
        · rw [z]; exact hil
      rw [upd_ne (Nat.ne_of_lt hb')]
      exact (hf b hb).1
  done := by
    intro X hP hw hK hc i pins s σ H E I hf st hg
    subst hP hw hK
    obtain ⟨⟨old, he⟩, hit, hne, hai, hea⟩ := st
    obtain ⟨xs, hq, hx⟩ := hg
    obtain ⟨its, rv, p, hz⟩ := I.tuple hq
    obtain ⟨f0, f1, f2, f3, f4, f5⟩ := hf it (by simp)
    have hl := rv.length
    have hA : X.A.in1.handled = none := by
      have := I.ok.hd hc
      simp [this]
    have hi : its.toArray[i]? = none := by simp; omega
    refine wpAny_pyNext_enum_endD (draws_end hA hi) he ⟨rfl, hit, p⟩ fun h' eb => ⟨rfl, I.turned (t' := s.toks) (fun b o hb q => eb b o hb q) f0 f1 f3 f4 f5⟩
  self := fun A i s Q E st h => let ⟨⟨_, he⟩, _⟩ := st; wpAny_pyIter_enum he h
def iEnumT (K : PySem.W.Frag) (ta : TA) : TI := fun σ H R => ta σ H fun vs H1 => ∃ a xs, vs = [.ref a] ∧ SqT K H1 a xs ∧ R (IteT K a) H1
theorem pi_enumT {X : Cx} {e : Expr} {ta : TA} {p pos tpos : Pos} {elts : List Expr} {kk : Nat} (hg : Gl X "enumerate") (hm : X.mg "enumerate" = none) (ha : PA X [e] ta) (hs : starEach [e] X.env = [(false, eval e X.env)] := by rfl) :
    PI X (.Tuple elts kk tpos) (.Call (.Name "enumerate" p) [e] [] pos) (iEnumT X.K ta) := by
  refine ⟨fun pins s σ H R I h => ?_⟩
  refine PyProof.Rows.Call_ (ld_blt I hg hm PyProof.Rows.boot_enumerate (PyProof.Rows.callWith_type1 (thn (ha.run pos pins s σ H _ I h) fun us s1 ⟨vs, H1, I1, r1, q1⟩ => ?_) hs rfl))
  obtain ⟨a, xs, ex, hq, q⟩ := q1
  subst ex
  cases r1 with
  | cons r rr =>
    cases rr
    cases r
    obtain ⟨its, rv, p', hz⟩ := I1.tuple hq
    have hal : a < s1.heap.objs.size := by obtain ⟨o, ho, _⟩ := p'; exact Heap.lt_size ho
    refine call_enumB1 (begins_tuple a its.toArray) p' fun h' he hit hsz hk => wpAny_pyIter_enum he ?_
    have I2 : Inv X pins σ H1 { s1 with heap := h' } := I1.kept (t' := s1.toks) hk
    refine ⟨s1.heap.objs.size + 1, [s1.heap.objs.size + 1, s1.heap.objs.size], _, _, H1, rfl, I2, turn_enumT a (s1.heap.objs.size + 1) s1.heap.objs.size, ⟨⟨.none, he⟩, ⟨_, hit, rfl, rfl⟩, Nat.succ_ne_self _, Nat.ne_of_lt hal, Nat.ne_of_gt (Nat.lt_succ_of_lt hal)⟩, fun b hb => ?_, q⟩
    have e' : b = s1.heap.objs.size + 1 ∨ b = s1.heap.objs.size := by simpa using hb
    have hle : s1.heap.objs.size ≤ b := by
      rcases e' with z | z
      · rw [z]; exact Nat.le_add_right _ _
      · rw [z]; exact Nat.le_refl _
    exact I1.fpOk hle (I1.hok.fresh hle)
/-! ### enumerate as a walk -/
def enumD : Nat → List D → List D
  | _, [] => []
  | i, x :: xs => .par [.int (i : Nat), x] :: enumD (i + 1) xs
theorem enumD_len : ∀ (i : Nat) (xs : List D), (enumD i xs).length = xs.length
  | _, [] => rfl
  | i, x :: xs => by simp [enumD, enumD_len (i + 1) xs]
theorem enumD_get : ∀ {k : Nat} {xs : List D} {i : Nat} {d : D}, (enumD k xs)[i]? = some d → ∃ x, xs[i]? = some x ∧ d = .par [.int ((k + i : Nat) : Int), x]
  | _, [], _, _, h => by simp [enumD] at h
  | k, x :: xs, 0, d, h => by simp [enumD] at h; exact ⟨x, rfl, h.symm⟩
  | k, x :: xs, i + 1, d, h => by
    obtain ⟨a, e1, e3⟩ := enumD_get (k := k + 1) (xs := xs) (i := i) (d := d) (by simpa [enumD] using h)
    refine ⟨a, by simpa using e1, ?_⟩
    rw [e3, show k + 1 + i = k + (i + 1) by omega]
def enumOf (x : Out) (m : Mem) : Option Src := match x with
  | .v (.tup a) => some ⟨enumD 0 a, []⟩
  | x => (lsrc x m).bind fun s => some ⟨enumD 0 s.items, s.live⟩
@[simp] def iEnumE (a : E) (ρ : Env) (m : Mem) : Option (Src × Mem) := (a ρ m).bind fun x => (enumOf x.1 x.2).bind fun s => some (s, x.2)
theorem si_enum {X : Cx} {tg e : Expr} {fa : E} (h : PI X tg e (fun σ H R => iEnum X.K (tCons (tE X.K fa) tNil) σ H R ∨ iEnumT X.K (tCons (tE X.K fa) tNil) σ H R)) : SI X tg e (iEnumE fa) := pi_imp h fun σ H R ⟨ι, ρ, m, s, m', rs, rm, hf, k⟩ => by
  obtain ⟨x, h1, hf⟩ := bind_some hf
  obtain ⟨s', h3, hf⟩ := bind_some hf
  cases hf
  unfold enumOf at h3
  split at h3
  · rename_i a e1; cases h3
    refine .inr ⟨ι, ρ, m, x.1, x.2, rs, rm, h1, fun v ι1 H1 l1 rm1 ro1 bd1 => ?_⟩
    rw [e1] at ro1
    cases ro1 with
    | tup hs r =>
      refine ⟨_, _, rfl, hs.sq, fun bd => k _ ι1 H1 l1 rm1 ?_ bd ?_⟩
      · intro ι3 H3 m3 i l3 rm3 _
        have hs' := (l3.k.rdT hs).sq
        have r' := r.mono l3
        refine ⟨fun hl => ?_, fun d hd => ?_⟩
        · refine ⟨_, hs', ?_⟩
          rw [show (⟨enumD 0 a, []⟩ : Src).items = enumD 0 a from rfl, enumD_len] at hl
          rw [← r'.length]; exact hl
        · obtain ⟨d1, g1, rfl⟩ := enumD_get hd
          obtain ⟨v1, w1, q1⟩ := r'.get g1
          refine ⟨⟨_, v1, hs', w1⟩, fun z H4 hy => ?_⟩
          obtain ⟨T, z1, rfl, hT, rfl, y1⟩ := hy
          have y1 := y1 _ hs'
          rw [w1] at y1; cases y1
          rw [Nat.zero_add]
          exact ⟨Le.newAt hT, rm3.newAt hT, new_par hT (.cons (.int _) (.cons q1 .nil))⟩
      · show (enumD 0 a).length ≤ _
        rw [enumD_len, r.length]
        exact bd1 _ _ (.inr hs.sq)
  · obtain ⟨s1, h4, h3⟩ := bind_some h3
    cases h3
    refine .inl ⟨ι, ρ, m, x.1, x.2, rs, rm, h1, fun v ι1 H1 l1 rm1 ro1 bd1 => ?_⟩
    obtain ⟨a1, vs1, rfl, q1, r1, k1⟩ := lsrc_at rm1 ro1 h4
    refine ⟨_, _, rfl, q1, fun bd => k _ ι1 H1 l1 rm1 ?_ bd ?_⟩
    · intro ι3 H3 m3 i l3 rm3 hc
      obtain ⟨w1, hs', r'⟩ := k1 ι3 H3 m3 l3 rm3 hc
      refine ⟨fun hl => ⟨_, hs', ?_⟩, fun d hd => ?_⟩
      · rw [show (⟨enumD 0 s1.items, s1.live⟩ : Src).items = enumD 0 s1.items from rfl, enumD_len] at hl
        rw [← r'.length]; exact hl
      · obtain ⟨d1, g1, rfl⟩ := enumD_get hd
        obtain ⟨v1, w1, q1⟩ := r'.get g1
        refine ⟨⟨_, v1, hs', w1⟩, fun z H4 hy => ?_⟩
        obtain ⟨T, z1, rfl, hT, rfl, y1⟩ := hy
        have y1 := y1 _ hs'
        rw [w1] at y1; cases y1
        rw [Nat.zero_add]
        exact ⟨Le.newAt hT, rm3.newAt hT, new_par hT (.cons (.int _) (.cons q1 .nil))⟩
    · show (enumD 0 s1.items).length ≤ _
      rw [enumD_len, r1.length]
      exact bd1 _ _ (.inl q1)
end Q
namespace Q
open PySem L2
/-! ### x += e, x -= e -/
theorem augI {K : PySem.W.Frag} {g : Int → Int → Int} {f : F2} (hf : ∀ x y m z, f x y m = some z → ∃ i j, x = .v (.int i) ∧ y = .v (.int j) ∧ z = (.v (.int (g i j)), m)) : R2S K (ipI g) f := by
  intro ι H H0 m x y z vx vy m' Q rm bd rx ry h k
  obtain ⟨i, j, rfl, rfl, e⟩ := hf _ _ _ _ h
  cases e; cases rx; cases ry
  exact ⟨_, _, rfl, rfl, k _ ι H (Le.refl _ _) rm (RV.int _)⟩
def augAdd (x y : Out) (m : Mem) : Option (Out × Mem) := match x, y with
  | .v (.int i), .v (.int j) => some (.v (.int (i + j)), m)
  | _, _ => none
def augSub (x y : Out) (m : Mem) : Option (Out × Mem) := match x, y with
  | .v (.int i), .v (.int j) => some (.v (.int (i - j)), m)
  | _, _ => none
theorem augAddU {K : PySem.W.Frag} : R2S K (ipI fun i j => i + j) augAdd := augI fun x y m z h => by
  unfold augAdd at h
  split at h
  · cases h; exact ⟨_, _, rfl, rfl, rfl⟩
  · cases h
theorem augSubU {K : PySem.W.Frag} : R2S K (ipI fun i j => i - j) augSub := augI fun x y m z h => by
  unfold augSub at h
  split at h
  · cases h; exact ⟨_, _, rfl, rfl, rfl⟩
  · cases h
@[simp] theorem augAdd_int (i j : Int) (m : Mem) : augAdd (.v (.int i)) (.v (.int j)) m = some (.v (.int (i + j)), m) := rfl
@[simp] theorem augSub_int (i j : Int) (m : Mem) : augSub (.v (.int i)) (.v (.int j)) m = some (.v (.int (i - j)), m) := rfl
/-! ### walks and ranges, short -/
section
variable {X : Cx} {e a b c : Expr} {es : List Expr} {pos p p2 q tpos : Pos} {fa fb fc : E} {elts : List Expr} {kk : Nat}
theorem zip_ (hm : X.mg "zip" = none) (ha : SE X a fa) (hb : SE X b fb) (hg : Gl X "zip" := by rfl) (hs : starEach [a, b] X.env = (false, eval a X.env) :: starEach [b] X.env := by rfl) (hs2 : starEach [b] X.env = (false, eval b X.env) :: starEach [] X.env := by rfl)
    (hpl : (backTo pos (starEach [b] X.env)).any (·.1) = false := by rfl) : SI X (.Tuple elts kk tpos) (.Call (.Name "zip" p) [a, b] [] pos) (iZip fa fb) := si_zip (RZ.pi_zipA hg hm (pa2 ha hb hs hs2) hs hpl)
theorem enum_ (hm : X.mg "enumerate" = none) (ha : SE X a fa) (hg : Gl X "enumerate" := by rfl) (hs : starEach [a] X.env = [(false, eval a X.env)] := by rfl) : SI X (.Tuple elts kk tpos) (.Call (.Name "enumerate" p) [a] [] pos) (iEnumE fa) :=
  si_enum (pi_or2 (pi_enum hg hm (pa_cons ha pa_nil hs) hs) (pi_enumT hg hm (pa_cons ha pa_nil hs) hs))
theorem lrg1_ (hl : X.mg "list" = none) (hm : X.mg "range" = none) (ha : SE X a fa) (hc : X.calm = true := by rfl) (hgl : Gl X "list" := by rfl) (hg : Gl X "range" := by rfl) (na : starEach [a] X.env = (false, eval a X.env) :: starEach [] X.env := by rfl)
    (ne : starEach [.Call (.Name "range" p) [a] [] pos] X.env = (false, eval (.Call (.Name "range" p) [a] [] pos) X.env) :: starEach [] X.env := by rfl) : SE X (.Call (.Name "list" p2) [.Call (.Name "range" p) [a] [] pos] [] q) (eRg1 mkL fa) := se_lrg1 (pe_listRg hc hgl hl (prg_1 hg hm ha na) ne)
theorem trg1_ (hl : X.mg "tuple" = none) (hm : X.mg "range" = none) (ha : SE X a fa) (hc : X.calm = true := by rfl) (hgl : Gl X "tuple" := by rfl) (hg : Gl X "range" := by rfl) (na : starEach [a] X.env = (false, eval a X.env) :: starEach [] X.env := by rfl)
    (ne : starEach [.Call (.Name "range" p) [a] [] pos] X.env = (false, eval (.Call (.Name "range" p) [a] [] pos) X.env) :: starEach [] X.env := by rfl) : SE X (.Call (.Name "tuple" p2) [.Call (.Name "range" p) [a] [] pos] [] q) (eRg1 mkT fa) := se_trg1 (pe_tupRgN hc hgl hl (prg_1 hg hm ha na) ne)
theorem lrg2_ (hl : X.mg "list" = none) (hm : X.mg "range" = none) (ha : SE X a fa) (hb : SE X b fb) (hc : X.calm = true := by rfl) (hgl : Gl X "list" := by rfl) (hg : Gl X "range" := by rfl) (na : starEach [a, b] X.env = (false, eval a X.env) :: starEach [b] X.env := by rfl)
    (nb : starEach [b] X.env = (false, eval b X.env) :: starEach [] X.env := by rfl) (hpl : (backTo pos (starEach [b] X.env)).any (·.1) = false := by rfl)
    (ne : starEach [.Call (.Name "range" p) [a, b] [] pos] X.env = (false, eval (.Call (.Name "range" p) [a, b] [] pos) X.env) :: starEach [] X.env := by rfl) : SE X (.Call (.Name "list" p2) [.Call (.Name "range" p) [a, b] [] pos] [] q) (eRg2 mkL fa fb) := se_lrg2 (pe_listRg hc hgl hl (prg_2 hg hm ha hb na nb hpl) ne)
theorem trg2_ (hl : X.mg "tuple" = none) (hm : X.mg "range" = none) (ha : SE X a fa) (hb : SE X b fb) (hc : X.calm = true := by rfl) (hgl : Gl X "tuple" := by rfl) (hg : Gl X "range" := by rfl) (na : starEach [a, b] X.env = (false, eval a X.env) :: starEach [b] X.env := by rfl)
    (nb : starEach [b] X.env = (false, eval b X.env) :: starEach [] X.env := by rfl) (hpl : (backTo pos (starEach [b] X.env)).any (·.1) = false := by rfl)
    (ne : starEach [.Call (.Name "range" p) [a, b] [] pos] X.env = (false, eval (.Call (.Name "range" p) [a, b] [] pos) X.env) :: starEach [] X.env := by rfl) : SE X (.Call (.Name "tuple" p2) [.Call (.Name "range" p) [a, b] [] pos] [] q) (eRg2 mkT fa fb) := se_trg2 (pe_tupRgN hc hgl hl (prg_2 hg hm ha hb na nb hpl) ne)
end
/-! ### a def that calls itself -/
theorem ss_none {X : Cx} {sts : List Stmt} : SSs X sts (fun _ _ => none) := ⟨fun pins s σ H D I h => by
  obtain ⟨ι, ρ, m, r, rs, rm, hf, _⟩ := h
  cases hf⟩
end Q

/-! dicts whose keys are any things of None, whole numbers, texts and tuples of such, in the machine's own words -/
namespace DV
open PySem
abbrev NE := NestedKey × Value × Value
def entV (w : World) (x : NE) : DictEntry := ⟨x.1.hash w, x.2.1, x.2.2⟩
def VIs (h : Heap) (k : NestedKey) (v : Value) : Prop := NestedIs h k v ∧ k.depth ≤ 8
def atV (xs : List NE) (k : NestedKey) : Option Value := (xs.find? fun x => decide (x.1 = k)).map (·.2.2)
def putV (k : NestedKey) (v : Value) (x : NE) : NE := if x.1 = k then (x.1, x.2.1, v) else x
def stoV (xs : List NE) (k : NestedKey) (key v : Value) : List NE := if (atV xs k).isSome then xs.map (putV k v) else xs ++ [(k, key, v)]
theorem stoV_new {xs : List NE} {k : NestedKey} (h : atV xs k = none) (a : Value) (v : Value) : stoV xs k a v = xs ++ [(k, a, v)] := by simp [stoV, h]
theorem stoV_old {xs : List NE} {k : NestedKey} {p : Value} (h : atV xs k = some p) (a : Value) (v : Value) : stoV xs k a v = xs.map (putV k v) := by simp [stoV, h]
theorem idx_unique {xs : List NE} (hn : (xs.map (·.1)).Nodup) : ∀ {i j : Nat} {k : NestedKey} {p q : Value × Value}, xs[i]? = some (k, p) → xs[j]? = some (k, q) → i = j := by
  intro i j k p q hi hj
  have hi' : (xs.map (·.1))[i]? = some k := by rw [List.getElem?_map, hi]; rfl
  have hj' : (xs.map (·.1))[j]? = some k := by rw [List.getElem?_map, hj]; rfl
  exact (List.getElem?_inj (List.getElem?_eq_some_iff.mp hi').1 hn).mp (hi'.trans hj'.symm)
theorem at_of_get {xs : List NE} (hn : (xs.map (·.1)).Nodup) {i : Nat} {k : NestedKey} {p : Value × Value} (hx : xs[i]? = some (k, p)) : atV xs k = some p.2 := by
  induction xs generalizing i with
  | nil => simp at hx
  | cons x rest ih =>
    rw [List.map_cons, List.nodup_cons] at hn
    cases i with
    | zero =>
      simp only [List.getElem?_cons_zero, Option.some.injEq] at hx
      subst hx; simp [atV]
    | succ j =>
      simp only [List.getElem?_cons_succ] at hx
      have hmem : k ∈ rest.map (·.1) := List.mem_map.mpr ⟨(k, p), List.mem_of_getElem? hx, rfl⟩
      have hne : ¬ x.1 = k := fun e => hn.1 (e ▸ hmem)
      have := ih hn.2 hx
      simpa [atV, List.find?_cons, hne] using this
theorem at_none {xs : List NE} {k : NestedKey} (h : ∀ (j : Nat) (p : Value × Value), xs[j]? ≠ some (k, p)) : atV xs k = none := by
  have : (xs.find? fun x => decide (x.1 = k)) = none := by
    rw [List.find?_eq_none]
    intro x hx hk
    obtain ⟨j, hj⟩ := List.mem_iff_getElem?.mp hx
    have hk' : x.1 = k := of_decide_eq_true hk
    exact h j x.2 (by rw [hj, ← hk'])
  simp [atV, this]
theorem not_mem_of {xs : List NE} {k : NestedKey} (h : ∀ (j : Nat) (p : Value × Value), xs[j]? ≠ some (k, p)) : k ∉ xs.map (·.1) := by
  intro hm
  obtain ⟨x, hx, rfl⟩ := List.mem_map.mp hm
  obtain ⟨j, hj⟩ := List.mem_iff_getElem?.mp hx
  exact h j x.2 hj
theorem map_put_not (xs : List NE) (k : NestedKey) (v : Value) (hn : k ∉ xs.map (·.1)) : xs.map (putV k v) = xs := by
  induction xs with
  | nil => rfl
  | cons x xs ih =>
    simp only [List.map_cons, List.mem_cons, not_or] at hn ⊢
    rw [putV, if_neg (fun e => hn.1 e.symm), ih hn.2]
theorem keys_put (xs : List NE) (k : NestedKey) (v : Value) : (xs.map (putV k v)).map (·.1) = xs.map (·.1) := by
  induction xs with
  | nil => rfl
  | cons x xs ih =>
    simp only [List.map_cons, ih]
    by_cases hk : x.1 = k <;> simp [putV, hk]
theorem modify_put {β : Type} (f : NE → β) (g : β → β) (k : NestedKey) (v : Value) (hg : ∀ a v₀, g (f (k, a, v₀)) = f (k, a, v)) :
    ∀ {xs : List NE} {j : Nat} {p : Value × Value}, (xs.map (·.1)).Nodup → xs[j]? = some (k, p) → (xs.map f).modify j g = (xs.map (putV k v)).map f := by
  intro xs
  induction xs with
  | nil => intro j p _ hj; simp at hj
  | cons x rest ih =>
    intro j p hn hj
    rw [List.map_cons, List.nodup_cons] at hn
    cases j with
    | zero =>
      simp only [List.getElem?_cons_zero, Option.some.injEq] at hj
      subst hj
      rw [List.map_cons, List.map_cons, map_put_not rest k v hn.1, putV, if_pos rfl, List.map_cons]
      show g (f (k, p)) :: rest.map f = f (k, p.1, v) :: rest.map f
      rw [show (k, p) = (k, p.1, p.2) from rfl, hg]
    | succ j =>
      simp only [List.getElem?_cons_succ] at hj
      have hmem : k ∈ rest.map (·.1) := List.mem_map.mpr ⟨(k, p), List.mem_of_getElem? hj, rfl⟩
      have hne : ¬ x.1 = k := fun e => hn.1 (e ▸ hmem)
      rw [List.map_cons, List.map_cons, putV, if_neg hne, List.map_cons]
      show f x :: (rest.map f).modify j g = f x :: (rest.map (putV k v)).map f
      rw [ih hn.2 hj]
theorem entry_at {w : World} {es : Array DictEntry} {xs : List NE} (he : es.toList = xs.map (entV w)) (j : Nat) : es[j]? = (xs[j]?).map (entV w) := by
  rw [← Array.getElem?_toList, he, List.getElem?_map]
theorem size_of {w : World} {es : Array DictEntry} {xs : List NE} (he : es.toList = xs.map (entV w)) : es.size = xs.length := by
  rw [← Array.length_toList, he, List.length_map]
theorem VIs.keeps {h h' : Heap} {k : NestedKey} {v : Value} {d : Addr} {o : Obj} {es : Array DictEntry} {ep : Nat} (x : VIs h k v) (ho : h.get? d = some o) (hd : o.data = .dict es ep) (hs : Heap.SameBut d h h') : VIs h' k v :=
  ⟨NestedIs.at (fun b ob vs n hb hc => by
    refine (hs.2 b fun e => ?_).trans hb
    subst e
    rw [ho] at hb
    cases hb
    rw [hd] at hc
    cases hc) k _ x.1, x.2⟩
section
variable {prog : Program} {w : World} {A : Around} {E : Value → Shared → Prop} {s : Shared}
theorem tells {key : Value} {k : NestedKey} {stored : List Value} {Q : Bool → Shared → Prop} (hkey : VIs s.heap k key)
    (hst : ∀ v ∈ stored, ∃ k', VIs s.heap k' v) (h : Q false s) : wpAny (model prog w) A (tableMayTell key stored) Q E s := by
  unfold tableMayTell
  split
  · exact wpAny_pure h
  · refine wpAny_bind (quiet_key k _ 8 s hkey.1 hkey.2 A E _ ?_)
    simp only [Bool.not_true, Bool.false_eq_true, if_false]
    refine wpAny_bind ?_
    refine wpAny_forIn_list _ (fun rest r s' => s' = s ∧ r = (none, ()) ∧ ∀ v ∈ rest, ∃ k', VIs s.heap k' v) _ ?_ ?_ _ _ ⟨rfl, rfl, hst⟩
    · rintro x rest r s' ⟨rfl, rfl, hr⟩
      obtain ⟨k', hb⟩ := hr x List.mem_cons_self
      refine wpAny_bind (quiet_key k' _ 8 _ hb.1 hb.2 A E _ ?_)
      simp only [Bool.not_true, Bool.false_eq_true, if_false]
      exact wpAny_pure ⟨rfl, rfl, fun v hv => hr v (List.mem_cons_of_mem _ hv)⟩
    · rintro r s' ⟨rfl, rfl, _⟩
      exact wpAny_pure h
theorem eqb {x y : NestedKey} {a b : Value} {Q : Bool → Shared → Prop} (hu : A.units + 8 < cLine) (hx : VIs s.heap x a) (hy : VIs s.heap y b) (h : Q (decide (x = y)) s) : wpAny (model prog w) A (PySem.eqBool a b) Q E s :=
  eqAt_key x y A s _ _ hx.1 hy.1 (by have := hx.2; have := hy.2; omega) _ _ _ _ (by rw [← NestedKey.decide_eq]; exact h)
theorem hsh {k : NestedKey} {a : Value} {Q : Int → Shared → Prop} (hu : A.units + 8 < cLine) (hx : VIs s.heap k a) (h : Q (k.hash w) { s with toks := s.toks + k.draws }) : wpAny (model prog w) A (PySem.pyHash a) Q E s :=
  pyHash_key _ _ _ _ _ hx.1 (by have := hx.2; omega) h
set_option maxHeartbeats 4000000 in
theorem find {d : Addr} {key : Value} {o : Obj} {es : Array DictEntry} {ep : Nat} {xs : List NE} {k : NestedKey} {Q : Option Nat → Shared → Prop} (hu : A.units + 8 < cLine) (hkey : VIs s.heap k key)
    (ho : s.heap.get? d = some o) (hd : o.data = .dict es ep) (he : es.toList = xs.map (entV w)) (his : ∀ x ∈ xs, VIs s.heap x.1 x.2.1) (hn : (xs.map (·.1)).Nodup)
    (hnone : (∀ (j : Nat) (p : Value × Value), xs[j]? ≠ some (k, p)) → Q none s) (hsome : ∀ (j : Nat) (p : Value × Value), xs[j]? = some (k, p) → Q (some j) s) :
    wpAny (model prog w) A (dictFind d key (k.hash w)) Q E s := by
  have hsz : es.size = xs.length := size_of he
  have haskey : ∀ (j : Nat) (p : Value × Value), xs[j]? = some (k, p) → ((es[j]?.map (·.hash)) == some (k.hash w)) = true := by
    intro j p hj
    rw [entry_at he j, hj]
    simp [entV]
  have hmem : ∀ e ∈ es, ∃ x ∈ xs, e = entV w x := by
    intro e hin
    have : e ∈ xs.map (entV w) := he ▸ Array.mem_toList_iff.mpr hin
    obtain ⟨x, hx, rfl⟩ := List.mem_map.mp this
    exact ⟨x, hx, rfl⟩
  have hst : ∀ v ∈ (placesWithHash es.size (fun i => es[i]?.map (·.hash)) (k.hash w)).filterMap (fun i => es[i]?.map (·.key)), ∃ k', VIs s.heap k' v := by
    intro v hv
    obtain ⟨i, _, hi⟩ := List.mem_filterMap.mp hv
    cases hei : es[i]? with
    | none => rw [hei] at hi; cases hi
    | some e =>
      rw [hei] at hi
      obtain rfl : e.key = v := by simpa using hi
      obtain ⟨x, hx, rfl⟩ := hmem e (Array.mem_of_getElem? hei)
      exact ⟨x.1, his x hx⟩
  -- what is known behind the places up to x
  have later : ∀ (i x : Nat) (rest : List Nat), x :: rest = (List.range' i (es.size - i)).filter (fun i => (es[i]?.map (·.hash)) == some (k.hash w)) → i ≤ es.size →
      i ≤ x ∧ x < es.size ∧ rest = (List.range' (x + 1) (es.size - (x + 1))).filter (fun i => (es[i]?.map (·.hash)) == some (k.hash w)) ∧ ∀ j, i ≤ j → j < x → ∀ p, xs[j]? ≠ some (k, p) := by
    intro i x rest hr hi
    obtain ⟨hix, hxn, hpx, hskip, hrest⟩ := filter_range'_cons _ _ _ _ _ hr.symm
    refine ⟨hix, by omega, by rw [hrest]; congr 2; omega, fun j h1 h2 p hj => ?_⟩
    have := hskip j h1 h2
    rw [haskey j p hj] at this
    exact absurd this (by decide)
  have ending : ∀ i, [] = (List.range' i (es.size - i)).filter (fun i => (es[i]?.map (·.hash)) == some (k.hash w)) → (∀ j, j < i → ∀ p, xs[j]? ≠ some (k, p)) → ∀ (j : Nat) (p : Value × Value), xs[j]? ≠ some (k, p) := by
    intro i hr hno j p hj
    rcases Nat.lt_or_ge j i with h | h
    · exact hno j h p hj
    · have hjl : j < es.size := by
        rw [hsz]
        rcases Nat.lt_or_ge j xs.length with h' | h'
        · exact h'
        · rw [List.getElem?_eq_none h'] at hj; exact nomatch hj
      have := List.filter_eq_nil_iff.mp hr.symm j (List.mem_range'_1.mpr ⟨h, by omega⟩)
      rw [haskey j p hj] at this
      exact absurd rfl this
  have stay : ∀ (x : Nat) (k' : NestedKey) (hit : Option Nat) (q : Value × Value), ¬ k' = k → xs[x]? = some (k', q) → ((hit = none ∧ ∀ j, j < x → ∀ p, xs[j]? ≠ some (k, p)) ∨ ∃ j p, hit = some j ∧ j < x ∧ xs[j]? = some (k, p)) →
      ((hit = none ∧ ∀ j, j < x + 1 → ∀ p, xs[j]? ≠ some (k, p)) ∨ ∃ j p, hit = some j ∧ j < x + 1 ∧ xs[j]? = some (k, p)) := by
    intro x k' hit q hne hkv hHx
    rcases hHx with ⟨h0, hno⟩ | ⟨j, p, h1, hjx, hj⟩
    · refine .inl ⟨h0, fun j hjx p hj => ?_⟩
      rcases Nat.lt_or_ge j x with h | h
      · exact hno j h p hj
      · have hjx' : j = x := by omega
        subst hjx'
        rw [hkv] at hj
        injection hj with hj
        injection hj with hj
        exact hne hj
    · exact .inr ⟨j, p, h1, by omega, hj⟩
  have plain : wpAny (model prog w) A (dictWalkPlain d key (k.hash w) es (placesWithHash es.size (fun i => es[i]?.map (·.hash)) (k.hash w))) Q E s := by
    refine wpAny_bind ?_
    refine wpAny_forIn_list _
      (fun rest b s' => s' = s ∧ b = (none, ()) ∧ ∃ i, rest = (List.range' i (es.size - i)).filter (fun i => (es[i]?.map (·.hash)) == some (k.hash w)) ∧ i ≤ es.size ∧
        ∀ j, j < i → ∀ p, xs[j]? ≠ some (k, p)) _ ?_ ?_ _ _
      ⟨rfl, rfl, 0, by rw [placesWithHash, List.range_eq_range', Nat.sub_zero], Nat.zero_le _, fun _ h => absurd h (Nat.not_lt_zero _)⟩
    · rintro x rest b s' ⟨rfl, rfl, i, hr, hi, hno⟩
      obtain ⟨hix, hlt, hrest, hskip⟩ := later i x rest hr hi
      obtain ⟨⟨k', b, v'⟩, hkv⟩ : ∃ y, xs[x]? = some y := ⟨xs[x]'(by rw [← hsz]; exact hlt), List.getElem?_eq_getElem _⟩
      have hib : VIs s'.heap k' b := his _ (List.mem_of_getElem? hkv)
      have hex : es[x]? = some ⟨k'.hash w, b, v'⟩ := by rw [entry_at he x, hkv]; rfl
      have hnext : ¬ k' = k → ∀ j, j < x + 1 → ∀ p, xs[j]? ≠ some (k, p) := fun hne j hj p hp => by
        rcases Nat.lt_or_ge j i with h | h
        · exact hno j h p hp
        · rcases Nat.lt_or_ge j x with h' | h'
          · exact hskip j h h' p hp
          · have : j = x := by omega
            subst this
            rw [hkv] at hp
            injection hp with hp
            injection hp with hp
            exact hne hp
      rw [hex]
      dsimp only
      by_cases hh : (k'.hash w == k.hash w) = true
      · rw [if_pos hh]
        refine wpAny_bind (wpAny_dictEpoch ho hd (wpAny_bind (eqb (x := k') (y := k) hu hib hkey (wpAny_bind (wpAny_dictEpoch ho hd ?_)))))
        show wpAny _ _ (if (ep != ep) = true then _ else _) _ E _
        rw [if_neg (by simp)]
        by_cases hkk : k' = k
        · rw [decide_eq_true hkk]
          subst hkk
          exact wpAny_bind (wpAny_rule (wpAny_pure (wpAny_pure (hsome x _ hkv))))
        · rw [decide_eq_false hkk]
          exact wpAny_bind (wpAny_rule (wpAny_pure ⟨rfl, rfl, x + 1, hrest, hlt, hnext hkk⟩))
      · rw [if_neg hh]
        refine wpAny_pure ⟨rfl, rfl, x + 1, hrest, hlt, hnext ?_⟩
        intro hkk
        rw [hkk] at hh; simp at hh
    · rintro b s' ⟨rfl, rfl, i, hr, hi, hno⟩
      exact wpAny_pure (hnone (ending i hr hno))
  unfold dictFind
  try with_reducible refine wpAny_holding ?_
  refine wpAny_bind (wpAny_dictEntries ho hd ?_)
  dsimp only
  have hk0 := hkey.1
  by_cases hall : (key :: (placesWithHash es.size (fun i => es[i]?.map (·.hash)) (k.hash w)).filterMap (fun i => es[i]?.map (·.key))).all carriedByValue = true
  · rw [if_pos hall]
    split
    next x t =>
      split
      next hstrs =>
        cases hk0 with
        | text =>
          unfold foundByValue
          have hkk : ∀ (j : Nat) (e : DictEntry), es[j]? = some e → (e.key.isStr x = true ↔ ∃ p, xs[j]? = some (.text x, p)) := by
            intro j e hj
            rw [entry_at he j] at hj
            obtain ⟨⟨k', b, v'⟩, h1, rfl⟩ := Option.map_eq_some_iff.mp hj
            have h2 := his _ (List.mem_of_getElem? h1)
            constructor
            · intro h3
              have h4 : ∃ u, b = .str x u := by
                cases b <;> first | (simp only [entV, Value.isStr] at h3; cases h3; done) | skip
                rename_i y u
                have : y = x := by simpa [entV, Value.isStr] using h3
                exact ⟨u, by rw [this]⟩
              obtain ⟨u, rfl⟩ := h4
              have : k' = .text x := NestedIs.inj _ _ _ h2.1 (.text x u)
              subst this
              exact ⟨_, h1⟩
            · rintro ⟨p, h3⟩
              rw [h1] at h3
              cases h3
              have h4 := h2.1
              cases h4
              simp [entV, Value.isStr]
          cases hf : es.findIdx? (fun e => e.key.isStr x) with
          | none =>
            refine wpAny_pure (hnone fun j p hj => ?_)
            have hlt : j < es.size := by
              rw [hsz]
              rcases Nat.lt_or_ge j xs.length with h' | h'
              · exact h'
              · rw [List.getElem?_eq_none h'] at hj; exact nomatch hj
            have h1 := Array.findIdx?_eq_none_iff.mp hf es[j] (Array.getElem_mem hlt)
            have h2 := (hkk j es[j] (Array.getElem?_eq_getElem hlt)).mpr ⟨p, hj⟩
            simp [h2] at h1
          | some i =>
            obtain ⟨hlt, hi, _⟩ := Array.findIdx?_eq_some_iff_getElem.mp hf
            obtain ⟨p, hp⟩ := (hkk i es[i] (Array.getElem?_eq_getElem hlt)).mp hi
            have hib : VIs s.heap (.text x) p.1 := his _ (List.mem_of_getElem? hp)
            have hex : es[i].key = p.1 := by
              have := entry_at he i
              rw [Array.getElem?_eq_getElem hlt, hp] at this
              have := Option.some.inj this
              rw [this]; rfl
            simp only [Array.getElem?_eq_getElem hlt]
            rw [hex]
            refine wpAny_bind (wpAny_dictEpoch ho hd (wpAny_bind (eqb hu hib hkey (wpAny_bind (wpAny_dictEpoch ho hd ?_)))))
            show wpAny _ _ (if (ep != ep) = true then _ else _) _ E _
            rw [if_neg (by simp), decide_eq_true rfl]
            exact wpAny_bind (wpAny_rule (wpAny_pure (hsome i p hp)))
      next => exact plain
    next => exact plain
  · rw [if_neg hall]
    have hany : ¬ (es.any fun e => e.key == key && e.hash != k.hash w) = true := by
      rw [← Array.any_toList, List.any_eq_true]
      rintro ⟨e, hin, hc⟩
      obtain ⟨x, hx, rfl⟩ := hmem e (Array.mem_toList_iff.mp hin)
      simp only [entV, Bool.and_eq_true, beq_iff_eq, bne_iff_ne, ne_eq] at hc
      obtain ⟨hxa, hne⟩ := hc
      have := his x hx
      rw [hxa] at this
      exact hne (by rw [NestedIs.inj _ _ _ this.1 hkey.1])
    have hstr : (∀ a, key ≠ .ref a) → ¬ (es.all fun e => isExactStrKey e.key) = true := by
      intro hr hs
      refine hall (List.all_eq_true.mpr fun v hv => ?_)
      rcases List.mem_cons.mp hv with rfl | hv
      · cases v <;> first | rfl | exact absurd rfl (hr _)
      · obtain ⟨i, _, hi⟩ := List.mem_filterMap.mp hv
        cases hei : es[i]? with
        | none => rw [hei] at hi; cases hi
        | some e =>
          rw [hei] at hi
          obtain rfl : e.key = v := by simpa using hi
          have h1 := (Array.all_eq_true_iff_forall_mem.mp hs) e (Array.mem_of_getElem? hei)
          cases hq : e.key <;> first | rfl | (rw [hq] at h1; cases h1)
    rw [if_neg hany]
    have hkc : key = .none ∨ (∃ b, key = .bool b) ∨ (∃ i t, key = .int i t) ∨ (∃ x t, key = .str x t) ∨ ∃ a, key = .ref a := by
      cases hk0 with
      | none => exact .inl rfl
      | bool _ => exact .inr (.inl ⟨_, rfl⟩)
      | int _ _ => exact .inr (.inr (.inl ⟨_, _, rfl⟩))
      | text _ _ => exact .inr (.inr (.inr (.inl ⟨_, _, rfl⟩)))
      | tup _ _ _ _ => exact .inr (.inr (.inr (.inr ⟨_, rfl⟩)))
    clear hk0
    by_cases hone : (((placesWithHash es.size (fun i => es[i]?.map (·.hash)) (NestedKey.hash w k)).filterMap (fun i => es[i]?.map (·.key))) == [key]) = true <;>
    (first | rw [if_pos hone] | rw [if_neg hone]) <;>
    rcases hkc with rfl | ⟨b, rfl⟩ | ⟨i, t, rfl⟩ | ⟨x, t, rfl⟩ | ⟨a, rfl⟩ <;> dsimp only <;>
    (try rw [if_neg (hstr (by intro a h; cases h))]) <;>
    (first | refine wpAny_bind (wpAny_pure ?_) | refine wpAny_bind (tells hkey hst ?_)) <;> (
        rw [if_neg (by simp)]
        refine wpAny_bind ?_
        refine wpAny_forIn_list _
          (fun rest b s' => s' = s ∧ ∃ i hit, b = (none, hit) ∧ rest = (List.range' i (es.size - i)).filter (fun i => (es[i]?.map (·.hash)) == some (NestedKey.hash w k)) ∧ i ≤ es.size ∧
            ((hit = none ∧ ∀ j, j < i → ∀ p, xs[j]? ≠ some (k, p)) ∨ ∃ j p, hit = some j ∧ j < i ∧ xs[j]? = some (k, p))) _ ?_ ?_ _ _
          ⟨rfl, 0, none, rfl, by rw [placesWithHash, List.range_eq_range', Nat.sub_zero], Nat.zero_le _, .inl ⟨rfl, fun _ h => absurd h (Nat.not_lt_zero _)⟩⟩
        · rintro x rest b s' ⟨rfl, i, hit, rfl, hr, hi, hH⟩
          obtain ⟨hix, hlt, hrest, hskip⟩ := later i x rest hr hi
          obtain ⟨⟨k', b, v'⟩, hkv⟩ : ∃ y, xs[x]? = some y := ⟨xs[x]'(by rw [← hsz]; exact hlt), List.getElem?_eq_getElem _⟩
          have hib : VIs s'.heap k' b := his _ (List.mem_of_getElem? hkv)
          have hex : es[x]? = some ⟨k'.hash w, b, v'⟩ := by rw [entry_at he x, hkv]; rfl
          have hHx : (hit = none ∧ ∀ j, j < x → ∀ p, xs[j]? ≠ some (k, p)) ∨ ∃ j p, hit = some j ∧ j < x ∧ xs[j]? = some (k, p) := by
            rcases hH with ⟨h0, hno⟩ | ⟨j, p, h1, hji, hj⟩
            · refine .inl ⟨h0, fun j hjx p hj => ?_⟩
              rcases Nat.lt_or_ge j i with h | h
              · exact hno j h p hj
              · exact hskip j h hjx p hj
            · exact .inr ⟨j, p, h1, by omega, hj⟩
          rw [hex]
          dsimp only
          split
          · refine wpAny_bind (wpAny_dictEpoch ho hd (wpAny_bind (eqb (x := k') (y := k) hu hib hkey (wpAny_bind (wpAny_dictEpoch ho hd ?_)))))
            show wpAny _ _ (if (ep != ep) = true then _ else _) _ E _
            rw [if_neg (by simp)]
            by_cases hkk : k' = k
            · rw [decide_eq_true hkk]
              subst hkk
              rcases hHx with ⟨rfl, _⟩ | ⟨j, p, _, hjx, hj⟩
              · first | rw [if_pos rfl] | skip
                simp only [Option.isSome_none, Bool.false_eq_true, if_false]
                first | refine wpAny_bind (wpAny_pure ?_) | skip
                refine wpAny_bind (wpAny_rule ?_)
                split
                · exact wpAny_pure (wpAny_pure (hsome x _ hkv))
                · exact wpAny_pure ⟨rfl, x + 1, some x, rfl, hrest, hlt, .inr ⟨x, _, rfl, Nat.lt_succ_self x, hkv⟩⟩
              · exact absurd (idx_unique hn hj hkv) (by omega)
            · rw [decide_eq_false hkk]
              simp only [Bool.false_eq_true, if_false]
              refine wpAny_bind (wpAny_rule ?_)
              first | rw [if_neg (by simp)] | skip
              have hstay := stay x k' hit ⟨b, v'⟩ hkk hkv hHx
              first
                | exact wpAny_pure ⟨rfl, x + 1, hit, rfl, hrest, hlt, hstay⟩
                | exact wpAny_bind (wpAny_pure (wpAny_pure ⟨rfl, x + 1, hit, rfl, hrest, hlt, hstay⟩))
          · rename_i hh
            refine wpAny_pure ⟨rfl, x + 1, hit, rfl, hrest, hlt, stay x k' hit ⟨b, v'⟩ ?_ hkv hHx⟩
            intro hkk
            rw [hkk] at hh; simp at hh
        · rintro b s' ⟨rfl, i, hit, rfl, hr, hi, hH⟩
          rcases hH with ⟨rfl, hno⟩ | ⟨j, p, rfl, _, hj⟩
          · exact wpAny_pure (hnone (ending i hr hno))
          · exact wpAny_pure (hsome j p hj))
end
end DV
namespace DV
open PySem
def DOk (w : World) (h : Heap) (d : Addr) (es : Array DictEntry) (xs : List NE) : Prop :=
  ∃ o ep, ep = es.size ∧ h.get? d = some o ∧ o.ExactDict ∧ o.data = .dict es ep ∧ es.toList = xs.map (entV w) ∧ (∀ x ∈ xs, VIs h x.1 x.2.1) ∧ (xs.map (·.1)).Nodup
theorem DOk.typeIs {w : World} {s : Shared} {d : Addr} {es : Array DictEntry} {xs : List NE} (hm : DOk w s.heap d es xs) : s.TypeIs (.ref d) "dict" := let ⟨o, _, _, ho, hc, _⟩ := hm; ⟨o, ho, hc.1⟩
theorem DOk.raw {w : World} {h : Heap} {d : Addr} {es : Array DictEntry} {xs : List NE} (hm : DOk w h d es xs) : DT.Raw h d es es.size := let ⟨o, ep, hep, ho, hc, hd, _⟩ := hm; ⟨o, ho, hc, by rw [← hep]; exact hd⟩
theorem DOk.size {w : World} {h : Heap} {d : Addr} {es : Array DictEntry} {xs : List NE} (hm : DOk w h d es xs) : es.size = xs.length := let ⟨o, ep, hep, ho, hc, hd, he, _⟩ := hm; size_of he
section
variable {prog : Program} {w : World} {A : Around} {E : Value → Shared → Prop} {s : Shared} {d : Addr} {es : Array DictEntry} {xs : List NE} {k : NestedKey} {key : Value}
theorem dget {Q : Option Value → Shared → Prop} (hu : A.units + 8 < cLine) (hkey : VIs s.heap k key) (hm : DOk w s.heap d es xs) (h : Q (atV xs k) { s with toks := s.toks + k.draws }) : wpAny (model prog w) A (dictGet d key) Q E s := by
  obtain ⟨o, ep, hep, ho, _, hd, he, his, hn⟩ := hm
  unfold dictGet
  try with_reducible refine wpAny_holding ?_
  refine wpAny_bind (hsh hu hkey (wpAny_bind (find (s := { s with toks := s.toks + k.draws }) hu hkey ho hd he his hn ?_ ?_)))
  · intro hno
    rw [at_none hno] at h
    exact wpAny_pure h
  · intro j p hj
    rw [at_of_get hn hj] at h
    refine wpAny_bind (wpAny_dictEntries (s := { s with toks := s.toks + k.draws }) ho hd ?_)
    rw [entry_at he j, hj]
    exact wpAny_pure h
theorem push_ok {o : Obj} {ep : Nat} {v : Value} (hep : ep = es.size) (hkey : VIs s.heap k key) (ho : s.heap.get? d = some o) (hc : o.ExactDict) (hd : o.data = .dict es ep) (he : es.toList = xs.map (entV w)) (his : ∀ x ∈ xs, VIs s.heap x.1 x.2.1) (hn : (xs.map (·.1)).Nodup)
    (hno : ∀ (j : Nat) (p : Value × Value), xs[j]? ≠ some (k, p)) (h' : Heap) (hs : Heap.SameBut d s.heap h') (hg : h'.get? d = some (o.mapDictKeys fun es => es.push ⟨k.hash w, key, v⟩)) :
    DOk w h' d (es.push ⟨k.hash w, key, v⟩) (stoV xs k key v) := by
  have hnot : k ∉ xs.map (·.1) := not_mem_of hno
  refine ⟨_, ep + 1, by rw [Array.size_push, hep], hg, hc.mapDictKeys _, Obj.data_mapDictKeys hd _, ?_, ?_, ?_⟩
  · rw [stoV_new (at_none hno)]
    simp [he, entV]
  · rw [stoV_new (at_none hno)]
    intro x hx
    rcases List.mem_append.mp hx with hx | hx
    · exact (his x hx).keeps ho hd hs
    · simp only [List.mem_singleton] at hx
      subst hx
      exact hkey.keeps ho hd hs
  · rw [stoV_new (at_none hno)]
    rw [List.map_append, List.nodup_append]
    refine ⟨hn, by simp, ?_⟩
    intro x hx y hy
    simp only [List.map_cons, List.map_nil, List.mem_singleton] at hy
    subst hy
    exact fun e => hnot (e ▸ hx)
theorem dset {v : Value} {Q : Unit → Shared → Prop} (hu : A.units + 8 < cLine) (hkey : VIs s.heap k key) (hm : DOk w s.heap d es xs) (hsz : xs.length < sizeLine)
    (hQ : ∀ h' es', DOk w h' d es' (stoV xs k key v) → Heap.SameBut d s.heap h' → Q () { s with heap := h', toks := s.toks + k.draws }) : wpAny (model prog w) A (dictSet d key v) Q E s := by
  obtain ⟨o, ep, hep, ho, hc, hd, he, his, hn⟩ := hm
  unfold dictSet
  try with_reducible refine wpAny_holding ?_
  refine wpAny_bind (hsh hu hkey ?_)
  unfold dictSetHashed
  try with_reducible refine wpAny_holding ?_
  refine wpAny_bind (find (s := { s with toks := s.toks + k.draws }) hu hkey ho hd he his hn ?_ ?_)
  · intro hno
    refine wpAny_bind (wpAny_rule (wpAny_updateDictKeys (hz := by have e := size_of he; omega) (s := { s with toks := s.toks + k.draws }) ho hd (hQ _ _ (push_ok hep hkey ho hc hd he his hn hno _ (Heap.SameBut.update ..) (Heap.get?_update_self _ ho (Obj.isFreed_of_dict (Obj.data_mapDictKeys hd _)))) (Heap.SameBut.update ..))))
  · intro j p hj
    refine wpAny_bind (wpAny_rule (wpAny_bind (wpAny_updateDict (s := { s with toks := s.toks + k.draws }) ho hd (wpAny_point (hQ _ _ ⟨_, ep, by rw [Array.size_modify, hep], Heap.get?_update_self _ ho (Obj.isFreed_of_dict (Obj.data_mapDict hd _)),
      hc.mapDict _, Obj.data_mapDict hd _, ?_, ?_, ?_⟩ (Heap.SameBut.update ..))))))
    · rw [stoV_old (at_of_get hn hj)]
      have := modify_put (entV w) (fun e : DictEntry => { e with val := v }) k v (fun _ _ => rfl) hn hj
      rw [← he] at this
      obtain ⟨l⟩ := es
      simpa using this
    · rw [stoV_old (at_of_get hn hj)]
      intro x hx
      obtain ⟨y, hy, rfl⟩ := List.mem_map.mp hx
      unfold putV
      split <;> exact (his y hy).keeps ho hd (Heap.SameBut.update ..)
    · rw [stoV_old (at_of_get hn hj)]
      rw [keys_put]; exact hn
theorem dsetd {v : Value} {Q : Value → Shared → Prop} (hu : A.units + 8 < cLine) (hkey : VIs s.heap k key) (hm : DOk w s.heap d es xs) (hsz : xs.length < sizeLine)
    (h1 : ∀ p, atV xs k = some p → Q p { s with toks := s.toks + k.draws })
    (h2 : atV xs k = none → ∀ h' es', DOk w h' d es' (stoV xs k key v) → Heap.SameBut d s.heap h' → Q v { s with heap := h', toks := s.toks + k.draws }) : wpAny (model prog w) A (dictSetDefault d key v) Q E s := by
  obtain ⟨o, ep, hep, ho, hc, hd, he, his, hn⟩ := hm
  unfold dictSetDefault
  try with_reducible refine wpAny_holding ?_
  refine wpAny_bind (hsh hu hkey ?_)
  refine wpAny_bind (find (s := { s with toks := s.toks + k.draws }) hu hkey ho hd he his hn ?_ ?_)
  · intro hno
    refine wpAny_bind (wpAny_rule (wpAny_bind (wpAny_updateDictKeys (hz := by have e := size_of he; omega) (s := { s with toks := s.toks + k.draws }) ho hd (wpAny_pure (h2 (at_none hno) _ _ (push_ok hep hkey ho hc hd he his hn hno _ (Heap.SameBut.update ..) (Heap.get?_update_self _ ho (Obj.isFreed_of_dict (Obj.data_mapDictKeys hd _)))) (Heap.SameBut.update ..))))))
  · intro j p hj
    refine wpAny_bind (wpAny_dictEntries (s := { s with toks := s.toks + k.draws }) ho hd ?_)
    rw [entry_at he j, hj]
    exact wpAny_bind (wpAny_rule (wpAny_pure (h1 p.2 (at_of_get hn hj))))
theorem cont {Q : Bool → Shared → Prop} (hu : A.units + 9 < cLine) (hkey : VIs s.heap k key) (hd : (d == sysModules) = false) (hm : DOk w s.heap d es xs)
    (h : Q (atV xs k).isSome { s with toks := s.toks + k.draws }) : wpAny (model prog w) A (contains (.ref d) key) Q E s := by
  unfold contains
  try with_reducible refine wpAny_holding ?_
  refine wpAny_bind (wpAny_specialOf hm.typeIs slot_dict_contains.lookup ?_)
  show wpAny _ _ (if (some (Value.builtin "dict.__contains__") == some Value.none) = true then _ else _) _ E s
  rw [if_neg (by rw [beq_builtin_none]; exact Bool.false_ne_true)]
  refine wpAny_bind (wpAny_callSpecialUnlessNone?_slot (name := Str.ofString "__contains__") hm.typeIs slot_dict_contains
    (wpAny_call_entry slot_dict_contains hm.typeIs entry_dict_contains ?_ (args_dict_contains _ _)))
  show wpAny _ _ (dictGet d key >>= _) _ _ s
  refine wpAny_bind (dget (show A.in1.units + 8 < cLine from by simp; omega) hkey hm ?_)
  cases hf : atV xs k with
  | some p =>
    rw [hf] at h
    show wpAny _ _ (ret (.bool true)) _ _ _
    exact wpAny_pure ⟨_, rfl, wpAny_truthy_bool h⟩
  | none =>
    rw [hf] at h
    show wpAny _ _ (Builtin.Dict.pendingKey? d key >>= _) _ _ _
    exact wpAny_bind (wpAny_pendingKey_other hd (wpAny_pure ⟨_, rfl, wpAny_truthy_bool h⟩))
theorem dIn {Q : Value → Shared → Prop} (hu : A.units + 9 < cLine) (hkey : VIs s.heap k key) (hd : (d == sysModules) = false) (hm : DOk w s.heap d es xs)
    (h : Q (.bool (atV xs k).isSome) { s with toks := s.toks + k.draws }) : wpAny (model prog w) A (compareOp .In key (.ref d)) Q E s := by
  show wpAny _ _ (do return .bool (← contains (.ref d) key)) Q E s
  exact wpAny_bind (cont hu hkey hd hm (wpAny_pure h))
theorem dNotIn {Q : Value → Shared → Prop} (hu : A.units + 9 < cLine) (hkey : VIs s.heap k key) (hd : (d == sysModules) = false) (hm : DOk w s.heap d es xs)
    (h : Q (.bool (!(atV xs k).isSome)) { s with toks := s.toks + k.draws }) : wpAny (model prog w) A (compareOp .NotIn key (.ref d)) Q E s := by
  show wpAny _ _ (do return .bool (!(← contains (.ref d) key))) Q E s
  exact wpAny_bind (cont hu hkey hd hm (wpAny_pure h))
theorem dItem {p : Value} {Q : Value → Shared → Prop} (hu : A.units + 9 < cLine) (hkey : VIs s.heap k key) (hm : DOk w s.heap d es xs) (hp : atV xs k = some p)
    (h : Q p { s with toks := s.toks + k.draws }) : wpAny (model prog w) A (getItem (.ref d) key) Q E s := by
  unfold getItem
  try with_reducible refine wpAny_holding ?_
  refine wpAny_bind (wpAny_sequenceKey hm.typeIs (by decide) ?_)
  refine wpAny_bind (wpAny_callSpecial?_slot (name := Str.ofString "__getitem__") hm.typeIs slot_dict_getitem
    (wpAny_call_entry slot_dict_getitem hm.typeIs entry_dict_getitem ?_ (args_dict_getitem _ _)))
  show wpAny _ _ (dictGet d key >>= _) _ _ s
  refine wpAny_bind (dget (show A.in1.units + 8 < cLine from by simp; omega) hkey hm ?_)
  rw [hp]
  exact wpAny_pure ⟨p, rfl, wpAny_pure h⟩
theorem dPut {v : Value} {Q : Unit → Shared → Prop} (hu : A.units + 9 < cLine) (hkey : VIs s.heap k key) (hm : DOk w s.heap d es xs) (hsz : xs.length < sizeLine)
    (hQ : ∀ h' es', DOk w h' d es' (stoV xs k key v) → Heap.SameBut d s.heap h' → Q () { s with heap := h', toks := s.toks + k.draws }) : wpAny (model prog w) A (setItem (.ref d) key v) Q E s := by
  unfold setItem
  try with_reducible refine wpAny_holding ?_
  refine wpAny_bind (wpAny_sequenceKey hm.typeIs (by decide) ?_)
  refine wpAny_bind (wpAny_callSpecial?_slot (name := Str.ofString "__setitem__") hm.typeIs slot_dict_setitem
    (wpAny_call_entry slot_dict_setitem hm.typeIs entry_dict_setitem ?_ (args_dict_setitem _ _ _)))
  show wpAny _ _ (Builtin.Dict.notOrdered "__setitem__" ⟨[.ref d, key, v], []⟩ >>= _) _ _ s
  refine wpAny_bind (wpAny_notOrdered_dict hm.typeIs ?_)
  show wpAny _ _ (dictSet d key v >>= _) _ _ s
  exact wpAny_bind (dset (show A.in1.units + 8 < cLine from by simp; omega) hkey hm hsz fun h' es' hm' hs' => wpAny_pure ⟨.none, rfl, wpAny_pure (hQ h' es' hm' hs')⟩)
theorem meets_get1 (hd : (d == sysModules) = false) :
    MeetsIn prog w (Builtin.«dict.get» ⟨[.ref d, key], []⟩) (fun A R s => A.in1.units + 8 < cLine ∧ ∃ k es xs, VIs s.heap k key ∧ DOk w s.heap d es xs ∧ R (.ok (.ret ((atV xs k).getD .none))) { s with toks := s.toks + k.draws }) :=
  .of_wp fun A R s ⟨hu, k, es, xs, hkey, hm, h⟩ => by
    show wpAny _ _ (dictGet d key >>= _) _ _ s
    refine wpAny_bind (dget hu hkey hm ?_)
    cases hf : atV xs k with
    | some v =>
      rw [hf] at h
      exact wpAny_pure ⟨v, rfl, h⟩
    | none =>
      rw [hf] at h
      show wpAny _ _ (Builtin.Dict.missed d key >>= _) _ _ _
      exact wpAny_bind (wpAny_missed_other hd (wpAny_pure ⟨.none, rfl, h⟩))
theorem meets_get2 (hd : (d == sysModules) = false) (dflt : Value) :
    MeetsIn prog w (Builtin.«dict.get» ⟨[.ref d, key, dflt], []⟩) (fun A R s => A.in1.units + 8 < cLine ∧ ∃ k es xs, VIs s.heap k key ∧ DOk w s.heap d es xs ∧ R (.ok (.ret ((atV xs k).getD dflt))) { s with toks := s.toks + k.draws }) :=
  .of_wp fun A R s ⟨hu, k, es, xs, hkey, hm, h⟩ => by
    show wpAny _ _ (dictGet d key >>= _) _ _ s
    refine wpAny_bind (dget hu hkey hm ?_)
    cases hf : atV xs k with
    | some v =>
      rw [hf] at h
      exact wpAny_pure ⟨v, rfl, h⟩
    | none =>
      rw [hf] at h
      show wpAny _ _ (Builtin.Dict.missed d key >>= _) _ _ _
      exact wpAny_bind (wpAny_missed_other hd (wpAny_pure ⟨dflt, rfl, h⟩))
theorem meets_setd (hd : (d == sysModules) = false) (dflt : Value) :
    MeetsIn prog w (Builtin.«dict.setdefault» ⟨[.ref d, key, dflt], []⟩) (fun A R s => A.in1.units + 8 < cLine ∧ ∃ k es xs, VIs s.heap k key ∧ DOk w s.heap d es xs ∧ xs.length < sizeLine ∧
      (∀ p, atV xs k = some p → R (.ok (.ret p)) { s with toks := s.toks + k.draws }) ∧
      (atV xs k = none → ∀ h' es', DOk w h' d es' (stoV xs k key dflt) → Heap.SameBut d s.heap h' → R (.ok (.ret dflt)) { s with heap := h', toks := s.toks + k.draws })) :=
  .of_wp fun A R s ⟨hu, k, es, xs, hkey, hm, hz, h1, h2⟩ => by
    unfold Builtin.«dict.setdefault»
    refine wpAny_bind ?_
    unfold Builtin.Dict.keyAndDefault
    refine wpAny_bind (wpAny_notOrdered_dict hm.typeIs ?_)
    show wpAny _ _ (pure (d, key, some dflt)) _ _ s
    refine wpAny_pure ?_
    show wpAny _ _ (if (d == sysModules) = true then _ else (dictSetDefault d key dflt >>= _)) _ _ s
    rw [if_neg (by rw [hd]; exact Bool.false_ne_true)]
    exact wpAny_bind (dsetd hu hkey hm hz (fun p hp => wpAny_pure ⟨p, rfl, h1 p hp⟩) fun hn h' es' hm' hs' => wpAny_pure ⟨dflt, rfl, h2 hn h' es' hm' hs'⟩)
end
end DV
namespace Q
open PySem L2 DV
/-! ### dicts by their entries: the layer's rules -/
section
variable {X : Cx} {pins : List (Addr × Obj)} {σ : St} {H : Hp} {s : Shared}
mutual
theorem KN.is (I : Inv X pins σ H s) : ∀ {k : NestedKey} {v : V} {u : Value}, KN X.K H k v → RelV v u → NestedIs s.heap k u
  | _, _, _, .non, r => by cases r; exact .none
  | _, _, _, .num i, r => by obtain ⟨t, rfl⟩ := r; exact .int i t
  | _, _, _, .tup h q, r => by
    cases r
    obtain ⟨its, rv, ⟨o, ho, hc, n, hd⟩, _⟩ := I.tuple h.sq
    exact .tup ho hc hd (by simpa using KNs.is I q rv)
theorem KNs.is (I : Inv X pins σ H s) : ∀ {k : List NestedKey} {v : List V} {u : List Value}, KNs X.K H k v → Vals v u → NestedAll s.heap k u
  | _, _, _, .nil, .nil => .nil
  | _, _, _, .cons h q, .cons r t => .cons (KN.is I h r) (KNs.is I q t)
end
mutual
theorem KN.hsh {K : PySem.W.Frag} (w w' : World) : ∀ {k : NestedKey} {v : V}, KN K H k v → k.hash w = k.hash w'
  | _, _, .non => by simp [NestedKey.hash]
  | _, _, .num i => by simp [NestedKey.hash]
  | _, _, .tup h q => by simp [NestedKey.hash, KNs.hsh w w' q]
theorem KNs.hsh {K : PySem.W.Frag} (w w' : World) : ∀ {k : List NestedKey} {v : List V}, KNs K H k v → NestedKey.hashes w k = NestedKey.hashes w' k
  | _, _, .nil => by simp [NestedKey.hashes]
  | _, _, .cons h q => by simp [NestedKey.hashes, KN.hsh w w' h, KNs.hsh w w' q]
end
def look {β : Type} (ks : List (NestedKey × β)) (k : NestedKey) : Option β := (ks.find? fun x => decide (x.1 = k)).map (·.2)
def sto {β : Type} (ks : List (NestedKey × β)) (k : NestedKey) (v : β) : List (NestedKey × β) := if (look ks k).isSome then ks.map (fun x => if x.1 = k then (x.1, v) else x) else ks ++ [(k, v)]
/-- the machine's entries of an entry list -/
theorem ents_of (I : Inv X pins σ H s) {ks : List (NestedKey × V)} {el : List DictEntry} (h : Paired (EntV X.K H) ks el) :
    ∃ xs : List NE, el = xs.map (entV X.w) ∧ xs.map (·.1) = ks.map (·.1) ∧ (∀ x ∈ xs, VIs s.heap x.1 x.2.1) ∧ Paired (fun (p : NestedKey × V) (x : NE) => p.1 = x.1 ∧ (∃ kv, KN X.K H p.1 kv ∧ RelV kv x.2.1) ∧ RelV p.2 x.2.2 ∧ p.1.depth ≤ 8) ks xs := by
  induction h with
  | nil => exact ⟨[], rfl, rfl, by simp, .nil⟩
  | @cons p e ps es h _ ih =>
    obtain ⟨xs, e1, e2, e3, e4⟩ := ih
    obtain ⟨⟨kv, h1, h2⟩, h3, h4, h5⟩ := h
    refine ⟨(p.1, e.key, e.val) :: xs, ?_, by simp [e2], ?_, .cons ⟨rfl, ⟨kv, h1, h2⟩, h4, h5⟩ e4⟩
    · rw [List.map_cons, ← e1]
      congr 1
      cases e
      simp [entV, ← h3 X.w]
    · intro x hx
      rcases List.mem_cons.mp hx with rfl | hx
      · exact ⟨h1.is I h2, h5⟩
      · exact e3 x hx
theorem dok_of (I : Inv X pins σ H s) {a : Addr} {ks : List (NestedKey × V)} (h : RawD X.K H a ks) :
    ∃ es xs, H a = some (RawO a es) ∧ DOk X.w s.heap a es xs ∧ Paired (fun (p : NestedKey × V) (x : NE) => p.1 = x.1 ∧ (∃ kv, KN X.K H p.1 kv ∧ RelV kv x.2.1) ∧ RelV p.2 x.2.2 ∧ p.1.depth ≤ 8) ks xs := by
  obtain ⟨es, h1, h2, h3, h4, h5⟩ := h
  obtain ⟨xs, e1, e2, e3, e4⟩ := ents_of I h2
  obtain ⟨⟨o, ho, hc, hd⟩, _⟩ := (show ObjOk X.prog X.w H s.heap a (RawO a es) from I.hok a _ h1)
  exact ⟨es, xs, h1, ⟨o, es.size, rfl, ho, hc, hd, e1, e3, by rw [e2]; exact h3⟩, e4⟩
theorem look_at {K : PySem.W.Frag} {ks : List (NestedKey × V)} {xs : List NE} {k : NestedKey} (h : Paired (fun (p : NestedKey × V) (x : NE) => p.1 = x.1 ∧ (∃ kv, KN K H p.1 kv ∧ RelV kv x.2.1) ∧ RelV p.2 x.2.2 ∧ p.1.depth ≤ 8) ks xs) :
    (look ks k = none ∧ atV xs k = none) ∨ ∃ v u, look ks k = some v ∧ atV xs k = some u ∧ RelV v u := by
  induction h with
  | nil => exact .inl ⟨rfl, rfl⟩
  | @cons p x ps xs h _ ih =>
    by_cases hk : p.1 = k
    · have hk' : x.1 = k := h.1 ▸ hk
      exact .inr ⟨p.2, x.2.2, by simp [look, hk], by simp [atV, hk'], h.2.2.1⟩
    · have hk' : ¬ x.1 = k := h.1 ▸ hk
      have e1 : look (p :: ps) k = look ps k := by simp [look, hk]
      have e2 : atV (x :: xs) k = atV xs k := by simp [atV, hk']
      rw [e1, e2]
      exact ih
theorem rawO_new {P : Program} {w : World} {h : Heap} {a : Addr} {es : Array DictEntry} {H : Hp} (r : DT.Raw h a es es.size) : ObjOk P w H h a (RawO a es) := by
  obtain ⟨o, ho, q⟩ := r
  exact ⟨⟨o, ho, q⟩, ⟨o, ho⟩, fun h1 h2 p k => p.at' k⟩
/-- behind a store -/
theorem sto_ents {w : World} {K : PySem.W.Frag} {a : Addr} {ks : List (NestedKey × V)} {xs : List NE} {k : NestedKey} {kv v : V} {key u : Value} {h' : Heap} {es' : Array DictEntry}
    (hp : Paired (fun (p : NestedKey × V) (x : NE) => p.1 = x.1 ∧ (∃ kv, KN K H p.1 kv ∧ RelV kv x.2.1) ∧ RelV p.2 x.2.2 ∧ p.1.depth ≤ 8) ks xs) (hk : KN K H k kv) (hr : RelV kv key) (hd : k.depth ≤ 8) (hv : RelV v u) (hm : DOk w h' a es' (stoV xs k key u)) :
    Paired (EntV K H) (sto ks k v) es'.toList := by
  obtain ⟨o, ep, hep, ho, hc, hdd, he, g1, g2⟩ := hm
  rw [he]
  clear g1 g2
  have one : ∀ (p : NestedKey × V) (x : NE), (p.1 = x.1 ∧ (∃ kv, KN K H p.1 kv ∧ RelV kv x.2.1) ∧ RelV p.2 x.2.2 ∧ p.1.depth ≤ 8) → EntV K H p (entV w x) := fun p x ⟨h1, ⟨kv, h2, h3⟩, h4, h5⟩ => by
    refine ⟨⟨kv, h2, h3⟩, fun w' => ?_, h4, h5⟩
    show x.1.hash w = _
    rw [← h1]; exact h2.hsh w w'
  have hl := look_at (k := k) hp
  unfold sto stoV
  rcases hl with ⟨e1, e2⟩ | ⟨v0, u0, e1, e2, _⟩
  · rw [e1, e2]
    simp only [Option.isSome_none, Bool.false_eq_true, if_false, List.map_append, List.map_cons, List.map_nil]
    clear e1 e2 he
    induction hp with
    | nil => exact .cons (one (k, v) (k, key, u) ⟨rfl, ⟨kv, hk, hr⟩, hv, hd⟩) .nil
    | cons h _ ih => exact .cons (one _ _ h) ih
  · rw [e1, e2]
    simp only [Option.isSome_some, if_true]
    clear e1 e2 he
    induction hp with
    | nil => exact .nil
    | @cons p x ps xs h _ ih =>
      refine .cons ?_ ih
      show EntV K H (if p.1 = k then (p.1, v) else p) _
      by_cases hkk : p.1 = k
      · have hkk' : x.1 = k := h.1 ▸ hkk
        rw [if_pos hkk]
        unfold putV
        rw [if_pos hkk']
        exact one (p.1, v) (x.1, x.2.1, u) ⟨h.1, h.2.1, hv, h.2.2.2⟩
      · have hkk' : ¬ x.1 = k := h.1 ▸ hkk
        rw [if_neg hkk]
        unfold putV
        rw [if_neg hkk']
        exact one p x h
theorem sto_keys {β : Type} {ks : List (NestedKey × β)} {k : NestedKey} {v : β} (h : (ks.map (·.1)).Nodup) : ((sto ks k v).map (·.1)).Nodup := by
  unfold sto
  split
  · rw [List.map_map]
    have : ((fun x : NestedKey × β => x.1) ∘ fun x => if x.1 = k then (x.1, v) else x) = fun x => x.1 := by
      funext x
      simp only [Function.comp]
      split <;> rfl
    rw [this]; exact h
  · rename_i hn
    rw [List.map_append, List.nodup_append]
    refine ⟨h, by simp, ?_⟩
    intro x hx y hy
    simp only [List.map_cons, List.map_nil, List.mem_singleton] at hy
    subst hy
    rintro rfl
    obtain ⟨p, hp, rfl⟩ := List.mem_map.mp hx
    apply hn
    unfold look
    rw [Option.isSome_map, List.find?_isSome]
    exact ⟨p, hp, by simp⟩
theorem sto_len {β : Type} (ks : List (NestedKey × β)) (k : NestedKey) (v : β) : (sto ks k v).length ≤ ks.length + 1 := by
  unfold sto
  split <;> simp
/-! the rules -/
def rInR (K : PySem.W.Frag) (neg : Bool) : R2 := fun x y H Q => ∃ a ks k, y = .ref a ∧ RawD K H a ks ∧ KN K H k x ∧ k.depth ≤ 8 ∧ Q (.bl (if neg then !(look ks k).isSome else (look ks k).isSome)) H
theorem op_inR (hu : X.A.units + 65 < cLine) : OpR X (compareOp .In) (rInR X.K false) := by
  intro pins s σ H x y v u Q I rx ry h
  obtain ⟨a, ks, k, rfl, hr, hk, hd, q⟩ := h
  cases ry
  obtain ⟨es, xs, e1, hm, hp⟩ := dok_of I hr
  refine dIn (k := k) (by omega) ⟨hk.is I rx, hd⟩ hr.choose_spec.2.2.2.2 hm ⟨.bl (look ks k).isSome, H, I.tok _, ?_, q⟩
  rcases look_at (k := k) hp with ⟨l1, l2⟩ | ⟨v0, u0, l1, l2, _⟩ <;> (rw [l1, l2]; rfl)
theorem op_notInR (hu : X.A.units + 65 < cLine) : OpR X (compareOp .NotIn) (rInR X.K true) := by
  intro pins s σ H x y v u Q I rx ry h
  obtain ⟨a, ks, k, rfl, hr, hk, hd, q⟩ := h
  cases ry
  obtain ⟨es, xs, e1, hm, hp⟩ := dok_of I hr
  refine dNotIn (k := k) (by omega) ⟨hk.is I rx, hd⟩ hr.choose_spec.2.2.2.2 hm ⟨.bl (!(look ks k).isSome), H, I.tok _, ?_, q⟩
  rcases look_at (k := k) hp with ⟨l1, l2⟩ | ⟨v0, u0, l1, l2, _⟩ <;> (rw [l1, l2]; rfl)
def rIxR (K : PySem.W.Frag) : R2 := fun x y H Q => ∃ a ks k v, x = .ref a ∧ RawD K H a ks ∧ KN K H k y ∧ k.depth ≤ 8 ∧ look ks k = some v ∧ Q v H
theorem ix_raw (hu : X.A.units + 65 < cLine) : IxR X (rIxR X.K) := by
  intro value slice pins s σ H x y v u Q I rx ry h hs
  obtain ⟨a, ks, k, vv, rfl, hr, hk, hd, hl, q⟩ := h
  cases rx
  obtain ⟨es, xs, e1, hm, hp⟩ := dok_of I hr
  rcases look_at (k := k) hp with ⟨l1, l2⟩ | ⟨v0, u0, l1, l2, rr⟩
  · rw [l1] at hl; cases hl
  · rw [l1] at hl; cases hl
    exact PyProof.Rows.subscriptTail_builtinR (x := u0) hm.typeIs slot_dict_getitem.lookup (dItem (k := k) (Q := fun r s' => r = u0 ∧ EP X pins σ Q r s') (by omega) ⟨hk.is I ry, hd⟩ hm l2 ⟨rfl, vv, H, I.tok _, rr, q⟩) hs
def rSetR (K : PySem.W.Frag) : TSet := fun o i v H Q => ∃ a ks k, o = .ref a ∧ RawD K H a ks ∧ KN K H k i ∧ k.depth ≤ 8 ∧ ks.length < sizeLine ∧ ∀ es', Paired (EntV K H) (sto ks k v) es'.toList → Q (upd H a (RawO a es'))
theorem set_raw (hu : X.A.units + 65 < cLine) : PSet X (rSetR X.K) := by
  intro pins s σ H o i v ov iv u Q I ro ri rv h
  obtain ⟨a, ks, k, rfl, hr, hk, hd, hz, q⟩ := h
  cases ro
  obtain ⟨es, xs, e1, hm, hp⟩ := dok_of I hr
  refine dPut (k := k) (by omega) ⟨hk.is I ri, hd⟩ hm (by rw [← Paired.length hp]; exact hz) fun h' es' hm' hs => ?_
  have r' := hm'.raw
  have he : ∃ u, h'.get? a = some u := let ⟨o, ho, _⟩ := r'; ⟨o, ho⟩
  exact ⟨upd H a (RawO a es'), I.write (e := a) (t' := s.toks + k.draws) (by rw [e1]; trivial) (.inl rfl) (fun b u hb hu => (hs.2 b hb).trans hu) he (rawO_new r'), q es' (sto_ents hp hk ri hd rv hm')⟩
def rGet1R (K : PySem.W.Frag) : V → List V → Hp → VK → Prop := fun x xs H Q => ∃ a ks k y, x = .ref a ∧ xs = [y] ∧ RawD K H a ks ∧ KN K H k y ∧ k.depth ≤ 8 ∧ Q ((look ks k).getD .non) H
def rGet2R (K : PySem.W.Frag) : V → List V → Hp → VK → Prop := fun x xs H Q => ∃ a ks k y z, x = .ref a ∧ xs = [y, z] ∧ RawD K H a ks ∧ KN K H k y ∧ k.depth ≤ 8 ∧ Q ((look ks k).getD z) H
def rSetdR (K : PySem.W.Frag) : V → List V → Hp → VK → Prop := fun x xs H Q => ∃ a ks k y z, x = .ref a ∧ xs = [y, z] ∧ RawD K H a ks ∧ KN K H k y ∧ k.depth ≤ 8 ∧ ks.length < sizeLine ∧
  (∀ v, look ks k = some v → Q v H) ∧ (look ks k = none → ∀ es', Paired (EntV K H) (sto ks k z) es'.toList → Q z (upd H a (RawO a es')))
theorem mt_get1R (hu : X.A.units + 65 < cLine) : MtR X "dict.get" (rGet1R X.K) := by
  intro pins s σ H x xs v us Q I rx rxs h
  obtain ⟨a, ks, k, y, rfl, rfl, hr, hk, hd, q⟩ := h
  cases rx
  cases rxs with
  | cons ry rt =>
    cases rt
    obtain ⟨es, xs, e1, hm, hp⟩ := dok_of I hr
    refine call_meetsIn PySem.F.slot_dict_get hm.typeIs PySem.F.entry_dict_get (PySem.F.args_dict_get_2 _ _) (meets_get1 hr.choose_spec.2.2.2.2) ⟨by simp; omega, k, es, xs, ⟨hk.is I ry, hd⟩, hm, (look ks k).getD .non, H, I.tok _, ?_, q⟩
    rcases look_at (k := k) hp with ⟨l1, l2⟩ | ⟨v0, u0, l1, l2, rr⟩
    · rw [l1, l2]; rfl
    · rw [l1, l2]; exact rr
theorem mt_get2R (hu : X.A.units + 65 < cLine) : MtR X "dict.get" (rGet2R X.K) := by
  intro pins s σ H x xs v us Q I rx rxs h
  obtain ⟨a, ks, k, y, z, rfl, rfl, hr, hk, hd, q⟩ := h
  cases rx
  cases rxs with
  | cons ry rt =>
    cases rt with
    | cons rz rt =>
      cases rt
      obtain ⟨es, xs, e1, hm, hp⟩ := dok_of I hr
      refine call_meetsIn PySem.F.slot_dict_get hm.typeIs PySem.F.entry_dict_get (PySem.F.args_dict_get_3 _ _ _) (meets_get2 hr.choose_spec.2.2.2.2 _) ⟨by simp; omega, k, es, xs, ⟨hk.is I ry, hd⟩, hm, (look ks k).getD z, H, I.tok _, ?_, q⟩
      rcases look_at (k := k) hp with ⟨l1, l2⟩ | ⟨v0, u0, l1, l2, rr⟩
      · rw [l1, l2]; exact rz
      · rw [l1, l2]; exact rr
theorem mt_setdR (hu : X.A.units + 65 < cLine) : MtR X "dict.setdefault" (rSetdR X.K) := by
  intro pins s σ H x xs v us Q I rx rxs h
  obtain ⟨a, ks, k, y, z, rfl, rfl, hr, hk, hd, hz, q1, q2⟩ := h
  cases rx
  cases rxs with
  | cons ry rt =>
    cases rt with
    | cons rz rt =>
      cases rt
      obtain ⟨es, xs, e1, hm, hp⟩ := dok_of I hr
      refine call_meetsIn PySem.F.slot_dict_setdefault hm.typeIs PySem.F.entry_dict_setdefault (PySem.F.args_dict_setdefault_3 _ _ _) (meets_setd hr.choose_spec.2.2.2.2 _) ⟨by simp; omega, k, es, xs, ⟨hk.is I ry, hd⟩, hm, by rw [← Paired.length hp]; exact hz, fun p hpp => ?_, fun hn h' es' hm' hs => ?_⟩
      · rcases look_at (k := k) hp with ⟨l1, l2⟩ | ⟨v0, u0, l1, l2, rr⟩
        · rw [l2] at hpp; cases hpp
        · rw [l2] at hpp; cases hpp
          exact ⟨v0, H, I.tok _, rr, q1 v0 l1⟩
      · have r' := hm'.raw
        have he : ∃ u, h'.get? a = some u := let ⟨o, ho, _⟩ := r'; ⟨o, ho⟩
        have ln : look ks k = none := by
          rcases look_at (k := k) hp with ⟨l1, l2⟩ | ⟨v0, u0, l1, l2, rr⟩
          · exact l1
          · rw [l2] at hn; cases hn
        exact ⟨z, upd H a (RawO a es'), I.write (e := a) (t' := s.toks + k.draws) (by rw [e1]; trivial) (.inl rfl) (fun b u hb hu => (hs.2 b hb).trans hu) he (rawO_new r'), rz, q2 ln es' (sto_ents hp hk ry hd rz hm')⟩
/-- {} -/
def tDNewR : TE := fun _ H Q => ∀ p, H p = none → (p == sysModules) = false → Q (.ref p) (upd H p (RawO p #[]))
theorem pe_dnewR {pos : Pos} : PE X (.Dict [] [] pos) tDNewR := ⟨fun pins s σ H Q I h =>
  wpAny_Dict_empty ⟨.ref s.heap.objs.size, _, I.laid (a := s.heap.objs.size) (o := RawO s.heap.objs.size #[]) (t' := s.toks) (fun _ _ q => Heap.get?_push_of_some _ q) (Nat.le_refl _) (rawO_new ⟨_, Heap.get?_push_size _ rfl, ⟨rfl, rfl, rfl⟩, rfl⟩), rfl,
    h _ (I.hok.fresh (Nat.le_refl _)) (beq_eq_false_iff_ne.mpr (Ne.symm (Nat.ne_of_lt I.big)))⟩⟩
/-! methods -/
def IsRaw (K : PySem.W.Frag) (H : Hp) (x : V) : Prop := ∃ a ks, x = .ref a ∧ RawD K H a ks
def tRM (K : PySem.W.Frag) (r : V → List V → Hp → VK → Prop) (to : TE) (t : TA) : TE := fun σ H Q => to σ H fun x H1 => IsRaw K H1 x ∧ t σ H1 fun xs H2 => r x xs H2 Q
theorem raw_ty (I : Inv X pins σ H s) {x : V} {v : Value} (r : RelV x v) (h : IsRaw X.K H x) : s.TypeIs v "dict" ∧ ∀ a, v = .ref a → ∃ ob, s.heap.get? a = some ob ∧ ob.dict = none := by
  obtain ⟨a, ks, rfl, hr⟩ := h
  cases r
  obtain ⟨es, xs, e1, hm, hp⟩ := dok_of I hr
  refine ⟨hm.typeIs, fun b e => ?_⟩
  cases e
  obtain ⟨o, ep, hep, ho, hc, _⟩ := hm
  exact ⟨o, ho, hc.2.1⟩
theorem pe_rm {o e : Expr} {es : List Expr} {to : TE} {t : TA} {apos cpos : Pos} {name : Str} {id : String} {r : V → List V → Hp → VK → Prop} (slot : Slot "dict" name id) (hty : typeOf (.builtin id) = pure (.type "method_descriptor")) (hm : MtR X id r) (ho : PE X o to) (ha : PA X (e :: es) t)
    (hbase : attributeBase o name X.env (eval o X.env) = eval o X.env := by rfl)
    (hfew : ((backTo cpos (starEach (e :: es) X.env)).all (fun x => !x.1) && (backToKw cpos (keywordEach [] X.env)).all (fun x => x.1.isSome)
      && decide ((e :: es).length + ([] : List Keyword).length + (if ([] : List Keyword).isEmpty then 0 else 1) < 30)) = true := by rfl)
    (hline : (apos.endLine == cpos.line) = true := by rfl) (hs : starEach (e :: es) X.env = (false, eval e X.env) :: starEach es X.env := by rfl) (hplain : (backTo cpos (starEach es X.env)).any (·.1) = false := by rfl) :
    PE X (.Call (.Attribute o name apos) (e :: es) [] cpos) (tRM X.K r to t) := by
  refine ⟨fun pins s σ H Q I h => ?_⟩
  refine wpAny_Call_method_late hbase hfew hline rfl (thn (ho.run pins s σ H _ I h) fun v s1 ⟨x, H1, I1, r1, ty, q1⟩ => ?_)
  obtain ⟨h1, h2⟩ := raw_ty I1 r1 ty
  refine ⟨"dict", id, PySem.F.plainAttrs_dict, slot, hty, h1, h2, ?_⟩
  have hA := ha.run cpos pins s1 σ H1 _ I1 q1
  rw [hs] at hA ⊢
  refine Calls.callWith_builtin (by show (false || (backTo cpos (starEach es X.env)).any (·.1)) = false; rw [hplain] <;> rfl) (Calls.evalArgs_plain ?_)
  exact thn hA fun us s2 ⟨vs, H2, I2, r2, q2⟩ => hm pins s2 σ H2 x vs v us Q I2 r1 r2 q2
end
end Q
namespace Q
open PySem L2 DV
/-! ### dicts as lists of pairs -/
mutual
def nk : D → Option NestedKey
  | .non => some .none
  | .int i => some (.num i)
  | .tup xs => (nks xs).map .tup
  | _ => none
def nks : List D → Option (List NestedKey)
  | [] => some []
  | d :: ds => (nk d).bind fun k => (nks ds).map (k :: ·)
end
mutual
theorem kN_nk : ∀ {d : D} {k : NestedKey}, nk d = some k → d = kN k
  | .non, k, h => by simp only [nk] at h; cases h; rw [kN]
  | .int i, k, h => by simp only [nk] at h; cases h; rw [kN]
  | .tup xs, k, h => by
    simp only [nk] at h
    obtain ⟨ks, h1, rfl⟩ := Option.map_eq_some_iff.mp h
    rw [kN, ← kN_nks h1]
  | .bl b, k, h => by simp [nk] at h
  | .str b, k, h => by simp [nk] at h
  | .fl b, k, h => by simp [nk] at h
  | .par b, k, h => by simp [nk] at h
  | .ref b, k, h => by simp [nk] at h
theorem kN_nks : ∀ {d : List D} {k : List NestedKey}, nks d = some k → d = kNs k
  | [], k, h => by simp only [nks] at h; cases h; rw [kNs]
  | d :: ds, k, h => by
    simp only [nks] at h
    obtain ⟨k1, h1, h⟩ := bind_some h
    obtain ⟨k2, h2, rfl⟩ := Option.map_eq_some_iff.mp h
    rw [kNs, ← kN_nk h1, ← kN_nks h2]
end
section
variable {K : PySem.W.Frag} {ι : List Addr} {H : Hp}
mutual
theorem RV.kn : ∀ {d : D} {v : V} {k : NestedKey}, RV K ι H d v → nk d = some k → KN K H k v
  | _, _, k, .non, h => by simp only [nk] at h; cases h; exact .non
  | _, _, k, .int i, h => by simp only [nk] at h; cases h; exact .num i
  | _, _, k, .tup hs r, h => by
    simp only [nk] at h
    obtain ⟨ks, h1, rfl⟩ := Option.map_eq_some_iff.mp h
    exact .tup hs (RVs.kn r h1)
  | _, _, k, .bl _, h => by simp [nk] at h
  | _, _, k, .str _, h => by simp [nk] at h
  | _, _, k, .fl _ _, h => by simp [nk] at h
  | _, _, k, .par _ _, h => by simp [nk] at h
  | _, _, k, .ref _, h => by simp [nk] at h
  | _, _, k, .lam _ _, h => by simp [nk] at h
theorem RVs.kn : ∀ {d : List D} {v : List V} {k : List NestedKey}, RVs K ι H d v → nks d = some k → KNs K H k v
  | _, _, k, .nil, h => by simp only [nks] at h; cases h; exact .nil
  | _, _, k, .cons r t, h => by
    simp only [nks] at h
    obtain ⟨k1, h1, h⟩ := bind_some h
    obtain ⟨k2, h2, rfl⟩ := Option.map_eq_some_iff.mp h
    exact .cons (RV.kn r h1) (RVs.kn t h2)
end
end
mutual
theorem kN_inj : ∀ {k j : NestedKey}, kN k = kN j → k = j
  | .none, j, h => by cases j <;> simp [kN] at h; rfl
  | .num i, j, h => by cases j <;> simp [kN] at h; rw [h]
  | .text i, j, h => by cases j <;> simp [kN] at h; rw [h]
  | .tup ks, j, h => by
    cases j with
    | tup js => simp only [kN, D.tup.injEq] at h; rw [kNs_inj h]
    | _ => simp [kN] at h
theorem kNs_inj : ∀ {k j : List NestedKey}, kNs k = kNs j → k = j
  | [], j, h => by cases j <;> simp [kNs] at h; rfl
  | k :: ks, j, h => by
    cases j with
    | nil => simp [kNs] at h
    | cons j js =>
      simp only [kNs, List.cons.injEq] at h
      rw [kN_inj h.1, kNs_inj h.2]
end
open Classical in
noncomputable def dlook (kvs : List (D × D)) (d : D) : Option D := (kvs.find? fun p => decide (p.1 = d)).map (·.2)
open Classical in
noncomputable def dsto (kvs : List (D × D)) (d v : D) : List (D × D) := if (dlook kvs d).isSome then kvs.map (fun p => if p.1 = d then (p.1, v) else p) else kvs ++ [(d, v)]
section
variable {K : PySem.W.Frag} {ι : List Addr} {H : Hp}
abbrev DR (K : PySem.W.Frag) (ι : List Addr) (H : Hp) : List (D × D) → List (NestedKey × V) → Prop := Paired (fun (p : D × D) (q : NestedKey × V) => p.1 = kN q.1 ∧ RV K ι H p.2 q.2)
theorem look_rel {kvs : List (D × D)} {ks : List (NestedKey × V)} {k : NestedKey} (h : DR K ι H kvs ks) : (dlook kvs (kN k) = none ∧ look ks k = none) ∨ ∃ v u, dlook kvs (kN k) = some v ∧ look ks k = some u ∧ RV K ι H v u := by
  induction h with
  | nil => exact .inl ⟨rfl, rfl⟩
  | @cons p q ps qs h _ ih =>
    by_cases hk : q.1 = k
    · have hk' : p.1 = kN k := by rw [h.1, hk]
      exact .inr ⟨p.2, q.2, by simp [dlook, hk'], by simp [look, hk], h.2⟩
    · have hk' : ¬ p.1 = kN k := fun e => hk (kN_inj (h.1.symm.trans e))
      have e1 : dlook (p :: ps) (kN k) = dlook ps (kN k) := by simp [dlook, hk']
      have e2 : look (q :: qs) k = look qs k := by simp [look, hk]
      rw [e1, e2]
      exact ih
theorem sto_rel {kvs : List (D × D)} {ks : List (NestedKey × V)} {k : NestedKey} {v : D} {u : V} (h : DR K ι H kvs ks) (hv : RV K ι H v u) : DR K ι H (dsto kvs (kN k) v) (sto ks k u) := by
  unfold dsto sto
  rcases look_rel (k := k) h with ⟨e1, e2⟩ | ⟨v0, u0, e1, e2, _⟩
  · rw [e1, e2]
    simp only [Option.isSome_none, Bool.false_eq_true, if_false]
    clear e1 e2
    induction h with
    | nil => exact .cons ⟨rfl, hv⟩ .nil
    | cons h _ ih => exact .cons h ih
  · rw [e1, e2]
    simp only [Option.isSome_some, if_true]
    clear e1 e2
    induction h with
    | nil => exact .nil
    | @cons p q ps qs h _ ih =>
      refine .cons ?_ ih
      by_cases hk : q.1 = k
      · have hk' : p.1 = kN k := by rw [h.1, hk]
        simp only [if_pos hk, if_pos hk']
        exact ⟨h.1, hv⟩
      · have hk' : ¬ p.1 = kN k := fun e => hk (kN_inj (h.1.symm.trans e))
        simp only [if_neg hk, if_neg hk']
        exact h
theorem DR.mono {ι' : List Addr} {H' : Hp} {kvs : List (D × D)} {ks : List (NestedKey × V)} (h : DR K ι H kvs ks) (p : Kp ι H ι' H') : DR K ι' H' kvs ks := Paired.mapP h fun _ _ z => ⟨z.1, z.2.kp p⟩
end
/-- a dict in the memory is written -/
theorem set_raw_at {K : PySem.W.Frag} {ι : List Addr} {H : Hp} {m : Mem} {n : Nat} {a : Addr} {ks ks' : List (NestedKey × V)} {kvs' : List (D × D)} {es' : Array DictEntry} (rm : RM K ι H m) (e : ι[n]? = some a) (h : RawD K H a ks) (hp : Paired (EntV K H) ks' es'.toList) (hn : (ks'.map (·.1)).Nodup) (hz : ks'.length ≤ sizeLine) (r : DR K ι H kvs' ks') :
    Le ι H ι (upd H a (RawO a es')) ∧ RM K ι (upd H a (RawO a es')) (m.set n (.dcr kvs')) := by
  obtain ⟨es, h1, _, _, _, h5⟩ := h
  have mu : Mut (H a) := by rw [h1]; trivial
  have ku : Kp ι H ι (upd H a (RawO a es')) := Kp.upd mu
  have ha : a ∈ ι := List.mem_of_getElem? e
  refine ⟨⟨⟨[], by simp, by simp⟩, fun b u hb c => ?_⟩, ⟨rm.nd, by simp [rm.len], fun k b hb => ?_⟩⟩
  · by_cases z : b = a
    · subst z
      rw [hb] at mu
      rcases c with c | c
      · exact (nofz mu c).elim
      · exact absurd ha c
    · rw [upd_ne z]; exact hb
  · by_cases z : n = k
    · subst z
      have hl : n < m.length := by rw [← rm.len]; exact (List.getElem?_eq_some_iff.mp e).1
      rw [List.getElem?_set_self hl] at hb
      cases hb
      exact ⟨a, e, ks', ⟨es', upd_same, Paired.mapP hp fun x e ⟨⟨kv, z1, z2⟩, z3⟩ => ⟨⟨kv, z1.kp ku, z2⟩, z3⟩, hn, hz, h5⟩, r.mono ku⟩
    · rw [List.getElem?_set_ne z] at hb
      obtain ⟨a', e1, rb⟩ := rm.ob k b hb
      refine ⟨a', e1, rb.kp ku (upd_ne fun q => z ?_)⟩
      subst q
      have h1 := (List.getElem?_eq_some_iff.mp e)
      have h2 := (List.getElem?_eq_some_iff.mp e1)
      exact nd_inj rm.nd h1.1 h2.1 (h1.2.trans h2.2.symm)
/-- a dict that is read -/
def dctOf (x : Out) (m : Mem) : Option (List (D × D)) := match x with
  | .v (.ref n) => (match m[n]? with | some (.dcr a) => some a | _ => none)
  | .o (.dcr a) => some a
  | _ => none
theorem dct_at {K : PySem.W.Frag} {ι : List Addr} {H H0 : Hp} {m : Mem} {x : Out} {v : V} {kvs : List (D × D)} (rm : RM K ι H m) (ro : RO K H0 ι H x v) (h : dctOf x m = some kvs) : ∃ a ks, v = .ref a ∧ RawD K H a ks ∧ DR K ι H kvs ks := by
  unfold dctOf at h
  split at h
  · split at h
    · rename_i n _ ys hm
      cases h
      cases ro with
      | ref e =>
        obtain ⟨a, e1, ks, e2, r⟩ := rm.ob _ _ hm
        rw [e] at e1; cases e1
        exact ⟨_, ks, rfl, e2, r⟩
    · cases h
  · cases h
    obtain ⟨p, e, _, _, ks, e2, r⟩ := ro
    exact ⟨p, ks, e, e2, r⟩
  · cases h
/-- a key: data without places, not deep -/
def keyOf (x : Out) : Option D := match x with
  | .v d => (match nk d with | some k => if k.depth ≤ 8 then some d else none | none => none)
  | _ => none
theorem key_at {K : PySem.W.Frag} {ι : List Addr} {H H0 : Hp} {x : Out} {v : V} {d : D} (ro : RO K H0 ι H x v) (h : keyOf x = some d) : ∃ k, d = kN k ∧ KN K H k v ∧ k.depth ≤ 8 := by
  unfold keyOf at h
  split at h
  · split at h
    · rename_i k hk
      split at h
      · rename_i hd
        cases h
        exact ⟨k, kN_nk hk, RV.kn ro hk, hd⟩
      · cases h
    · cases h
  · cases h
/-- d[k] -/
noncomputable def dixF (x : Out) (y : Out) (m : Mem) : Option (Out × Mem) := (dctOf x m).bind fun kvs => (keyOf y).bind fun d => (dlook kvs d).map fun v => (.v v, m)
theorem dixU {K : PySem.W.Frag} : R2S K (rIxR K) dixF := by
  intro ι H H0 m x y z vx vy m' Q rm bd rx ry hf k
  obtain ⟨kvs, h1, hf⟩ := bind_some hf
  obtain ⟨d, h2, hf⟩ := bind_some hf
  obtain ⟨v, h3, h4⟩ := Option.map_eq_some_iff.mp hf
  cases h4
  obtain ⟨a, ks, rfl, hr, dr⟩ := dct_at rm rx h1
  obtain ⟨kk, rfl, hk, hd⟩ := key_at ry h2
  rcases look_rel (k := kk) dr with ⟨e1, e2⟩ | ⟨v0, u0, e1, e2, rv⟩
  · rw [e1] at h3; cases h3
  · rw [e1] at h3; cases h3
    exact ⟨a, ks, kk, u0, rfl, hr, hk, hd, e2, k _ ι H (Le.refl _ _) rm rv⟩
/-- k in d, k not in d -/
noncomputable def dinF (neg : Bool) (x : Out) (y : Out) (m : Mem) : Option (Out × Mem) := (dctOf y m).bind fun kvs => (keyOf x).bind fun d => some (.v (.bl (if neg then !(dlook kvs d).isSome else (dlook kvs d).isSome)), m)
theorem dinU {K : PySem.W.Frag} {neg : Bool} : R2S K (rInR K neg) (dinF neg) := by
  intro ι H H0 m x y z vx vy m' Q rm bd rx ry hf k
  obtain ⟨kvs, h1, hf⟩ := bind_some hf
  obtain ⟨d, h2, hf⟩ := bind_some hf
  cases hf
  obtain ⟨a, ks, rfl, hr, dr⟩ := dct_at rm ry h1
  obtain ⟨kk, rfl, hk, hd⟩ := key_at rx h2
  refine ⟨a, ks, kk, rfl, hr, hk, hd, ?_⟩
  have e : (dlook kvs (kN kk)).isSome = (look ks kk).isSome := by
    rcases look_rel (k := kk) dr with ⟨e1, e2⟩ | ⟨v0, u0, e1, e2, rv⟩ <;> rw [e1, e2] <;> rfl
  rw [← e]
  exact k _ ι H (Le.refl _ _) rm (RV.bl _)
/-- d[k] = v -/
noncomputable def dstoF (o i : Out) (d : D) (m : Mem) : Option Mem := match o with
  | .v (.ref n) => (match m[n]? with
    | some (.dcr kvs) => (keyOf i).bind fun k => if fits (kvs.length + 1) then some (m.set n (.dcr (dsto kvs k d))) else none
    | _ => none)
  | _ => none
@[simp] noncomputable def gDx (o i : E) (d : D) (ρ : Env) (m : Mem) : Option (Env × Mem) := (o ρ m).bind fun x => (i ρ x.2).bind fun y => (dstoF x.1 y.1 d y.2).bind fun m' => some (ρ, m')
theorem sg_dx {X : Cx} {e : Expr} {fo fi : E} (h0 : PG X e (gSub (tE X.K fo) (tE X.K fi) (rSetR X.K))) : SG X e (gDx fo fi) := pg_imp h0 fun v σ H Q ⟨ι, ρ, m, d, ρ', m', rs, rm, rv, hg, k⟩ => by
  obtain ⟨x, h1, hg⟩ := bind_some hg
  obtain ⟨y, h2, hg⟩ := bind_some hg
  obtain ⟨m2, h3, hg⟩ := bind_some hg
  cases hg
  refine ⟨ι, ρ, m, x.1, x.2, rs, rm, h1, fun ov ι1 H1 l1 rm1 ro1 bd1 => ?_⟩
  refine ⟨ι1, ρ, x.2, y.1, y.2, rs.mono l1, rm1, h2, fun iv ι2 H2 l2 rm2 ro2 bd2 => ?_⟩
  unfold dstoF at h3
  split at h3
  · rename_i n e1
    rw [e1] at ro1
    split at h3
    · rename_i kvs hm
      obtain ⟨dk, h4, h3⟩ := bind_some h3
      split at h3
      · rename_i hz; cases h3
        obtain ⟨kk, rfl, hk, hd⟩ := key_at ro2 h4
        have ro3 := ro1.mono l2
        cases ro3 with
        | ref e =>
          obtain ⟨a, e3, ks, e4, r⟩ := rm2.ob _ _ hm
          rw [e] at e3; cases e3
          have hl : ks.length + 1 ≤ sizeLine := by rw [← Paired.length r]; exact hz
          refine ⟨_, ks, kk, rfl, e4, hk, hd, by omega, fun es' hp => ?_⟩
          obtain ⟨l3, rm3⟩ := set_raw_at rm2 e e4 hp (sto_keys e4.choose_spec.2.2.1) (Nat.le_trans (sto_len _ _ _) hl) (sto_rel r ((rv.mono l1).mono l2))
          exact k _ ι2 _ (l1.tr rm1 (l2.tr rm2 l3)) (((rs.mono l1).mono l2).mono l3) rm3
      · cases h3
    · cases h3
  · cases h3
/-- {} -/
@[simp] def eDnew (_ : Env) (m : Mem) : Option (Out × Mem) := some (.o (.dcr []), m)
theorem se_dnew {X : Cx} {pos : Pos} : SE X (.Dict [] [] pos) eDnew := pe_imp pe_dnewR fun σ H Q ⟨ι, ρ, m, z, m', rs, rm, hf, k⟩ => by
  cases hf
  intro p hp hs bd
  exact k _ ι _ (Le.newAt hp) (rm.newAt hp) ⟨p, rfl, hp, fun z => rm.there p z hp, [], ⟨#[], upd_same, .nil, by simp, by simp, hs⟩, .nil⟩ bd
/-! methods -/
def isDct (x : Out) (m : Mem) : Bool := (dctOf x m).isSome
@[simp] def eDm1 (f : F2) (a b : E) (ρ : Env) (m : Mem) : Option (Out × Mem) := (a ρ m).bind fun x => if isDct x.1 x.2 = true then (b ρ x.2).bind fun y => f x.1 y.1 y.2 else none
abbrev F3 := Out → Out → Out → Mem → Option (Out × Mem)
@[simp] def eDm2 (f : F3) (a b c : E) (ρ : Env) (m : Mem) : Option (Out × Mem) := (a ρ m).bind fun x => if isDct x.1 x.2 = true then (b ρ x.2).bind fun y => (c ρ y.2).bind fun z => f x.1 y.1 z.1 z.2 else none
def R3N (K : PySem.W.Frag) (r : V → V → V → Hp → VK → Prop) (f : F3) : Prop := ∀ (ι0 : List Addr) (H0 : Hp) (ι : List Addr) (H : Hp) (m : Mem) (x y t z : Out) (vx vy vt : V) (m' : Mem) (Q : VK), Le ι0 H0 ι H → RM K ι H m → Bnd K H → RO K H0 ι H x vx → RO K H0 ι H y vy → RO K H0 ι H t vt → f x y t m = some (z, m') →
  (∀ v ι' H', Le ι0 H0 ι' H' → RM K ι' H' m' → RO K H0 ι' H' z v → Q v H') → r vx vy vt H Q
section
variable {X : Cx} {e : Expr} {fa fb fc : E} {f2 : F2} {f3 : F3} {r : V → List V → Hp → VK → Prop}
theorem isDct_raw {K : PySem.W.Frag} {ι : List Addr} {H H0 : Hp} {m : Mem} {x : Out} {v : V} (rm : RM K ι H m) (ro : RO K H0 ι H x v) (h : isDct x m = true) : IsRaw K H v := by
  obtain ⟨kvs, h1⟩ := Option.isSome_iff_exists.mp h
  obtain ⟨a, ks, e, hr, _⟩ := dct_at rm ro h1
  exact ⟨a, ks, e, hr⟩
theorem se_dm1 (h0 : PE X e (tRM X.K r (tE X.K fa) (tCons (tE X.K fb) tNil))) (hr : R2N X.K (fun v u H Q => r v [u] H Q) f2) : SE X e (eDm1 f2 fa fb) := pe_imp h0 fun σ H Q ⟨ι, ρ, m, z, m', rs, rm, hf, k⟩ => by
  obtain ⟨x, h1, hf⟩ := bind_some hf
  split at hf
  · rename_i ht
    obtain ⟨y, h2, hf⟩ := bind_some hf
    refine ⟨ι, ρ, m, x.1, x.2, rs, rm, h1, fun v ι1 H1 l1 rm1 ro1 bd1 => ⟨isDct_raw rm1 ro1 ht, ?_⟩⟩
    refine ⟨ι1, ρ, x.2, y.1, y.2, rs.mono l1, rm1, h2, fun u ι2 H2 l2 rm2 ro2 bd2 => ?_⟩
    exact hr ι H ι2 H2 y.2 x.1 y.1 z v u m' _ (l1.tr rm1 l2) rm2 bd2 (ro1.mono l2) (ro2.from l1 rm1) hf fun w ι3 H3 l3 rm3 ro3 bd3 => k w ι3 H3 l3 rm3 ro3 bd3
  · cases hf
theorem se_dm2 (h0 : PE X e (tRM X.K r (tE X.K fa) (tCons (tE X.K fb) (tCons (tE X.K fc) tNil)))) (hr : R3N X.K (fun v u t H Q => r v [u, t] H Q) f3) : SE X e (eDm2 f3 fa fb fc) := pe_imp h0 fun σ H Q ⟨ι, ρ, m, z, m', rs, rm, hf, k⟩ => by
  obtain ⟨x, h1, hf⟩ := bind_some hf
  split at hf
  · rename_i ht
    obtain ⟨y, h2, hf⟩ := bind_some hf
    obtain ⟨t, h3, hf⟩ := bind_some hf
    refine ⟨ι, ρ, m, x.1, x.2, rs, rm, h1, fun v ι1 H1 l1 rm1 ro1 bd1 => ⟨isDct_raw rm1 ro1 ht, ?_⟩⟩
    refine ⟨ι1, ρ, x.2, y.1, y.2, rs.mono l1, rm1, h2, fun u ι2 H2 l2 rm2 ro2 bd2 => ?_⟩
    refine ⟨ι2, ρ, y.2, t.1, t.2, (rs.mono l1).mono l2, rm2, h3, fun tv ι3 H3 l3 rm3 ro3 bd3 => ?_⟩
    exact hr ι H ι3 H3 t.2 x.1 y.1 t.1 z v u tv m' _ (l1.tr rm1 (l2.tr rm2 l3)) rm3 bd3 ((ro1.mono l2).mono l3) ((ro2.mono l3).from l1 rm1) (ro3.from (l1.tr rm1 l2) rm2) hf fun w ι4 H4 l4 rm4 ro4 bd4 => k w ι4 H4 l4 rm4 ro4 bd4
  · cases hf
end
/-- d.get(k), d.get(k, z) -/
noncomputable def get1F (x : Out) (y : Out) (m : Mem) : Option (Out × Mem) := (dctOf x m).bind fun kvs => (keyOf y).bind fun d => some (.v ((dlook kvs d).getD .non), m)
theorem get1U {K : PySem.W.Frag} : R2S K (fun v u H Q => rGet1R K v [u] H Q) get1F := by
  intro ι H H0 m x y z vx vy m' Q rm bd rx ry hf k
  obtain ⟨kvs, h1, hf⟩ := bind_some hf
  obtain ⟨d, h2, hf⟩ := bind_some hf
  cases hf
  obtain ⟨a, ks, rfl, hr, dr⟩ := dct_at rm rx h1
  obtain ⟨kk, rfl, hk, hd⟩ := key_at ry h2
  refine ⟨a, ks, kk, _, rfl, rfl, hr, hk, hd, ?_⟩
  rcases look_rel (k := kk) dr with ⟨e1, e2⟩ | ⟨v0, u0, e1, e2, rv⟩
  · rw [e1] at k; rw [e2]; exact k _ ι H (Le.refl _ _) rm RV.non
  · rw [e1] at k; rw [e2]; exact k _ ι H (Le.refl _ _) rm rv
noncomputable def get2F (x : Out) (y : Out) (t : Out) (m : Mem) : Option (Out × Mem) := (dctOf x m).bind fun kvs => (keyOf y).bind fun d => match dlook kvs d with
  | some v => some (.v v, m)
  | none => some (t, m)
theorem get2U {K : PySem.W.Frag} : R3N K (fun v u t H Q => rGet2R K v [u, t] H Q) get2F := by
  intro ι0 H0 ι H m x y t z vx vy vt m' Q l rm bd rx ry rt hf k
  obtain ⟨kvs, h1, hf⟩ := bind_some hf
  obtain ⟨d, h2, hf⟩ := bind_some hf
  obtain ⟨a, ks, rfl, hr, dr⟩ := dct_at rm rx h1
  obtain ⟨kk, rfl, hk, hd⟩ := key_at ry h2
  refine ⟨a, ks, kk, _, _, rfl, rfl, hr, hk, hd, ?_⟩
  rcases look_rel (k := kk) dr with ⟨e1, e2⟩ | ⟨v0, u0, e1, e2, rv⟩
  · rw [e1] at hf; cases hf; rw [e2]; exact k _ ι H l rm rt
  · rw [e1] at hf; cases hf; rw [e2]; exact k _ ι H l rm rv
/-- d.setdefault(k, z) -/
noncomputable def setdF (x : Out) (y : Out) (t : Out) (m : Mem) : Option (Out × Mem) := match x with
  | .v (.ref n) => (match m[n]? with
    | some (.dcr kvs) => (keyOf y).bind fun d => if fits (kvs.length + 1) then (match dlook kvs d with
      | some v => some (.v v, m)
      | none => some (.v (val t m).1, (val t m).2.set n (.dcr (dsto kvs d (val t m).1)))) else none
    | _ => none)
  | _ => none
theorem setdU {K : PySem.W.Frag} : R3N K (fun v u t H Q => rSetdR K v [u, t] H Q) setdF := by
  intro ι0 H0 ι H m x y t z vx vy vt m' Q l rm bd rx ry rt hf k
  unfold setdF at hf
  split at hf
  · split at hf
    · rename_i n kvs hm
      obtain ⟨d, h2, hf⟩ := bind_some hf
      split at hf
      · rename_i hz
        obtain ⟨kk, rfl, hk, hd⟩ := key_at ry h2
        cases rx with
        | ref e =>
          obtain ⟨a, e1, ks, hr, dr⟩ := rm.ob _ _ hm
          rw [e] at e1; cases e1
          have hl : ks.length + 1 ≤ sizeLine := by rw [← Paired.length dr]; exact hz
          refine ⟨_, ks, kk, _, _, rfl, rfl, hr, hk, hd, by omega, fun v hv => ?_, fun hv es' hp => ?_⟩
          · rcases look_rel (k := kk) dr with ⟨e1, e2⟩ | ⟨v0, u0, e1, e2, rv⟩
            · rw [e2] at hv; cases hv
            · rw [e2] at hv; cases hv
              rw [e1] at hf; cases hf
              exact k _ ι H l rm rv
          · rcases look_rel (k := kk) dr with ⟨e1, e2⟩ | ⟨v0, u0, e1, e2, rv⟩
            · rw [e1] at hf; cases hf
              obtain ⟨ι2, l2, rm2, rv2, _, up, ups⟩ := rt.val l rm (RS.nil K ι H)
              cases up _ _ (RV.ref e) with
              | ref e' =>
                obtain ⟨l3, rm3⟩ := set_raw_at rm2 e' hr hp (sto_keys hr.choose_spec.2.2.1) (Nat.le_trans (sto_len _ _ _) hl) (sto_rel (Paired.mapP dr fun _ _ z => ⟨z.1, up _ _ z.2⟩) rv2)
                exact k _ ι2 _ (l2.tr rm2 l3) rm3 (RV.mono l3 rv2)
            · rw [e2] at hv; cases hv
      · cases hf
    · cases hf
  · cases hf
/-! short words -/
section
variable {X : Cx} {e a b c : Expr} {pos p p2 apos : Pos} {fa fb fc : E} {k : Nat}
theorem dix_ (hr : Room k X.A) (ha : SE X a fa) (hb : SE X b fb) (hs : PlainIx b := by exact fun _ _ => rfl) : SE X (.Subscript a b pos) (eBin dixF fa fb) := se_ix (ix_raw (u65 hr)) dixU ha hb hs
theorem din_ (hr : Room k X.A) (ha : SE X a fa) (hb : SE X b fb) (hm : behindInMarks .In b = false := by with_unfolding_all rfl) : SE X (.Compare a [.In] [b] pos) (eBin (dinF false) fa fb) := se_cmp (op_inR (u65 hr)) dinU ha hb hm
theorem dnin_ (hr : Room k X.A) (ha : SE X a fa) (hb : SE X b fb) (hm : behindInMarks .NotIn b = false := by with_unfolding_all rfl) : SE X (.Compare a [.NotIn] [b] pos) (eBin (dinF true) fa fb) := se_cmp (op_notInR (u65 hr)) dinU ha hb hm
theorem t_din (hr : Room k X.A) (ha : SE X a fa) (hb : SE X b fb) (hm : behindInMarks .In b = false := by with_unfolding_all rfl) : ST X (.Compare a [.In] [b] pos) (bOf (eBin (dinF false) fa fb)) := st_cmp (op_inR (u65 hr)) dinU ha hb hm
theorem t_dnin (hr : Room k X.A) (ha : SE X a fa) (hb : SE X b fb) (hm : behindInMarks .NotIn b = false := by with_unfolding_all rfl) : ST X (.Compare a [.NotIn] [b] pos) (bOf (eBin (dinF true) fa fb)) := st_cmp (op_notInR (u65 hr)) dinU ha hb hm
theorem dget1_ (h0 : PE X e (tRM X.K (rGet1R X.K) (tE X.K fa) (tCons (tE X.K fb) tNil))) : SE X e (eDm1 get1F fa fb) := se_dm1 h0 get1U.n
theorem dget2_ (h0 : PE X e (tRM X.K (rGet2R X.K) (tE X.K fa) (tCons (tE X.K fb) (tCons (tE X.K fc) tNil)))) : SE X e (eDm2 get2F fa fb fc) := se_dm2 h0 get2U
theorem dsetd_ (h0 : PE X e (tRM X.K (rSetdR X.K) (tE X.K fa) (tCons (tE X.K fb) (tCons (tE X.K fc) tNil)))) : SE X e (eDm2 setdF fa fb fc) := se_dm2 h0 setdU
end
end Q
namespace Q
open PySem L2
/-! ### xs.index(y) -/
theorem findIdx_spec {α : Type} {p : α → Bool} : ∀ {xs : List α} {j : Nat}, xs.findIdx? p = some j → ∃ y, xs[j]? = some y ∧ p y = true ∧ ∀ (m : Nat) (z : α), m < j → xs[m]? = some z → p z = false := by
  intro xs j h
  obtain ⟨hj, h1, h2⟩ := List.findIdx?_eq_some_iff_getElem.mp h
  refine ⟨xs[j], List.getElem?_eq_getElem hj, h1, fun m z hm hz => ?_⟩
  have := h2 m hm
  obtain ⟨_, rfl⟩ := List.getElem?_eq_some_iff.mp hz
  simpa using this
section
variable {X : Cx}
def rIdxT (K : PySem.W.Frag) : V → List V → Hp → VK → Prop := fun x xs H Q => ∃ p ys z j y, x = .ref p ∧ xs = [z] ∧ SqT K H p ys ∧ flatV z = true ∧ ys.all flatV = true ∧ ys[j]? = some y ∧ eqV y z = true ∧ (∀ m y', m < j → ys[m]? = some y' → eqV y' z = false) ∧ Q (.int (j : Nat)) H
theorem mt_idxT : MtR X "tuple.index" (rIdxT X.K) := by
  intro pins s σ H x xs v us Q I rx rs h
  obtain ⟨p, ys, z, j, y, rfl, rfl, hq, fz, fys, hy, hyz, hno, q⟩ := h
  cases rx
  cases rs with
  | cons rz rt =>
    cases rt
    obtain ⟨its, r, pl, hz⟩ := I.tuple hq
    obtain ⟨⟨cls, dd, dt, sl⟩, ho, hc, n, hd⟩ := pl
    simp only at hc hd
    subst hc
    subst hd
    have hl : its.toArray.size = ys.length := by rw [List.size_toArray, ← r.length]
    have hj : j < its.toArray.size := by rw [hl]; exact (List.getElem?_eq_some_iff.mp hy).1
    have at' : ∀ (m : Nat) (hm : m < its.toArray.size), ∃ y, ys[m]? = some y ∧ L2.eqU z its.toArray[m] = eqV y z := fun m hm => by
      have hm' : m < ys.length := by rw [← hl]; exact hm
      obtain ⟨w, hw, hw'⟩ := r.get (i := m) (x := ys[m]) (List.getElem?_eq_getElem hm')
      refine ⟨ys[m], List.getElem?_eq_getElem hm', ?_⟩
      have e := (List.getElem?_eq_some_iff.mp hw).2
      have e2 : its.toArray[m] = w := by rw [← e]; simp
      rw [e2]
      exact L2.eqU_of hw' ((List.all_eq_true.mp fys) _ (List.getElem_mem hm'))
    refine call_meets PySem.F.slot_tuple_index ⟨_, ho, rfl⟩ PySem.F.entry_tuple_index (PySem.F.args_tuple_index_2 _ _) (_root_.TI.tuple_indexAt p its.toArray n dd sl _ (L2.eqU z) j hj ?_ ?_)
      ⟨ho, fun w hw => mem_eqAt (x := z) rz fz r fys w (by simpa using hw), ⟨.int (j : Nat), H, I.tok _, ⟨_, rfl⟩, q⟩⟩
    · obtain ⟨y', h1, h2⟩ := at' j hj
      rw [hy] at h1
      cases h1
      rw [h2]
      exact hyz
    · intro m hm hmj
      obtain ⟨y', h1, h2⟩ := at' m hm
      rw [h2]
      exact hno m y' hmj h1
def IsTp (K : PySem.W.Frag) (H : Hp) (x : V) : Prop := ∃ a vs, x = .ref a ∧ TpAt K H a vs
theorem tp_ty {pins : List (Addr × Obj)} {σ : St} {H : Hp} {s : Shared} (I : Inv X pins σ H s) {x : V} {v : Value} (r : RelV x v) (h : IsTp X.K H x) : s.TypeIs v "tuple" ∧ ∀ a, v = .ref a → ∃ ob, s.heap.get? a = some ob ∧ ob.dict = none := by
  obtain ⟨a, vs, rfl, hr⟩ := h
  cases r
  obtain ⟨its, _, p, _⟩ := I.tuple hr.sq
  refine ⟨p.typeIs, fun b e => ?_⟩
  cases e
  rcases hr with ⟨o, h1, h2⟩ | ⟨o, _, _, h1, _, h2, _⟩
  · exact ⟨o, (I.hok a _ h1).1, h2⟩
  · exact ⟨o, I.kIn _ _ h1, h2⟩
def tTM (K : PySem.W.Frag) (r : V → List V → Hp → VK → Prop) (to : TE) (t : TA) : TE := fun σ H Q => to σ H fun x H1 => IsTp K H1 x ∧ t σ H1 fun xs H2 => r x xs H2 Q
theorem pe_tm {o e : Expr} {es : List Expr} {to : TE} {t : TA} {apos cpos : Pos} {name : Str} {id : String} {r : V → List V → Hp → VK → Prop} (slot : Slot "tuple" name id) (hty : typeOf (.builtin id) = pure (.type "method_descriptor")) (hm : MtR X id r) (ho : PE X o to) (ha : PA X (e :: es) t)
    (hbase : attributeBase o name X.env (eval o X.env) = eval o X.env := by rfl)
    (hfew : ((backTo cpos (starEach (e :: es) X.env)).all (fun x => !x.1) && (backToKw cpos (keywordEach [] X.env)).all (fun x => x.1.isSome)
      && decide ((e :: es).length + ([] : List Keyword).length + (if ([] : List Keyword).isEmpty then 0 else 1) < 30)) = true := by rfl)
    (hline : (apos.endLine == cpos.line) = true := by rfl) (hs : starEach (e :: es) X.env = (false, eval e X.env) :: starEach es X.env := by rfl) (hplain : (backTo cpos (starEach es X.env)).any (·.1) = false := by rfl) :
    PE X (.Call (.Attribute o name apos) (e :: es) [] cpos) (tTM X.K r to t) := by
  refine ⟨fun pins s σ H Q I h => ?_⟩
  refine wpAny_Call_method_late hbase hfew hline rfl (thn (ho.run pins s σ H _ I h) fun v s1 ⟨x, H1, I1, r1, ty, q1⟩ => ?_)
  obtain ⟨h1, h2⟩ := tp_ty I1 r1 ty
  refine ⟨"tuple", id, PySem.F.plainAttrs_tuple, slot, hty, h1, h2, ?_⟩
  have hA := ha.run cpos pins s1 σ H1 _ I1 q1
  rw [hs] at hA ⊢
  refine Calls.callWith_builtin (by show (false || (backTo cpos (starEach es X.env)).any (·.1)) = false; rw [hplain] <;> rfl) (Calls.evalArgs_plain ?_)
  exact thn hA fun us s2 ⟨vs, H2, I2, r2, q2⟩ => hm pins s2 σ H2 x vs v us Q I2 r1 r2 q2
/-- t.index(y): flat things -/
def idxTF (x : Out) (y : Out) (m : Mem) : Option (Out × Mem) := match x with
  | .v (.tup xs) => (form y m).bind fun a => if flatD a = true ∧ xs.all flatD = true then (xs.findIdx? fun d => d.eqb a).map fun j => (.v (.int (j : Nat)), m) else none
  | _ => none
@[simp] def eTm1 (f : F2) (a b : E) (ρ : Env) (m : Mem) : Option (Out × Mem) := (a ρ m).bind fun x => match x.1 with
  | .v (.tup xs) => (b ρ x.2).bind fun y => f (.v (.tup xs)) y.1 y.2
  | _ => none
theorem eqb_V {K : PySem.W.Frag} {ι : List Addr} {H : Hp} {a : D} {u : V} (q : RV K ι H a u) (h2 : flatD a = true) : ∀ {ds : List D} {vs : List V} {j : Nat} {v : V}, RVs K ι H ds vs → ds.all flatD = true → vs[j]? = some v → ∃ d, ds[j]? = some d ∧ eqV v u = d.eqb a
  | _, _, _, _, .nil, _, e => by simp at e
  | _, _, 0, _, .cons r t, h, e => by
    simp only [List.all_cons, Bool.and_eq_true] at h
    simp at e; subst e
    exact ⟨_, rfl, eqV_D r q h.1 h2⟩
  | _, _, j + 1, _, .cons r t, h, e => by
    simp only [List.all_cons, Bool.and_eq_true] at h
    obtain ⟨d, e1, e2⟩ := eqb_V q h2 (j := j) t h.2 (by simpa using e)
    exact ⟨d, by simpa using e1, e2⟩
theorem se_idxT {e : Expr} {fa fb : E} (h0 : PE X e (tTM X.K (rIdxT X.K) (tE X.K fa) (tCons (tE X.K fb) tNil))) : SE X e (eTm1 idxTF fa fb) := pe_imp h0 fun σ H Q ⟨ι, ρ, m, z, m', rs, rm, hf, k⟩ => by
  obtain ⟨x, h1, hf⟩ := bind_some hf
  split at hf
  · rename_i xs e1
    obtain ⟨y, h2, hf⟩ := bind_some hf
    obtain ⟨a, h3, hf⟩ := bind_some hf
    split at hf
    · rename_i hfl
      obtain ⟨j, h4, h5⟩ := Option.map_eq_some_iff.mp hf
      cases h5
      refine ⟨ι, ρ, m, x.1, x.2, rs, rm, h1, fun v ι1 H1 l1 rm1 ro1 bd1 => ?_⟩
      rw [e1] at ro1
      cases ro1 with
      | tup hs r =>
        refine ⟨⟨_, _, rfl, hs⟩, ι1, ρ, x.2, y.1, y.2, rs.mono l1, rm1, h2, fun u ι2 H2 l2 rm2 ro2 bd2 => ?_⟩
        have hs2 := l2.k.rdT hs
        have r2 := r.mono l2
        have ra := form_flat (m := y.2) ro2 h3 hfl.1
        obtain ⟨d, g1, g2, g3⟩ := findIdx_spec h4
        obtain ⟨v1, g4, g5⟩ := r2.get g1
        refine ⟨_, _, _, j, v1, rfl, rfl, hs2.sq, flatD_v ra hfl.1, flatD_all r2 hfl.2, g4, ?_, fun mm y' hmj hy' => ?_, fun bd => k _ ι2 H2 (l1.tr rm1 l2) rm2 (RV.int _) bd⟩
        · obtain ⟨d', q1, q2⟩ := eqb_V ra hfl.1 r2 hfl.2 g4
          rw [g1] at q1; cases q1
          rw [q2]; exact g2
        · obtain ⟨d', q1, q2⟩ := eqb_V ra hfl.1 r2 hfl.2 hy'
          rw [q2]
          exact g3 mm d' hmj q1
    · cases hf
  · cases hf
end
end Q
namespace Q
open PySem L2
/-! ### more built-in functions of ints -/
def intsOfX : List D → Option (List Int)
  | [] => some []
  | .int b :: r => (intsOfX r).map (b :: ·)
  | _ => none
theorem intsOfX_eq : ∀ {xs : List D} {bs : List Int}, intsOfX xs = some bs → xs = bs.map D.int
  | [], bs, h => by cases h; rfl
  | d :: r, bs, h => by
    cases d with
    | int b =>
      rw [intsOfX] at h
      obtain ⟨cs, h1, h2⟩ := Option.map_eq_some_iff.mp h
      rw [← h2, intsOfX_eq h1]; rfl
    | _ => simp [intsOfX] at h
theorem intsOfX_map (bs : List Int) : intsOfX (bs.map D.int) = some bs := by
  induction bs with
  | nil => rfl
  | cons b r ih => simp [intsOfX, ih]
def sortI (ns : List Int) : List Int := ns.mergeSort fun a b => decide (a ≤ b)
theorem sortI_perm (ns : List Int) : (sortI ns).Perm ns := List.mergeSort_perm _ _
theorem sortI_rise (ns : List Int) : (sortI ns).Pairwise (· ≤ ·) := by
  have := List.pairwise_mergeSort (le := fun a b : Int => decide (a ≤ b)) (by simp; omega) (by simp; omega) ns
  exact this.imp (fun h => by simpa using h)
theorem sortI_unique {a ns : List Int} (h1 : a.Perm ns) (h2 : a.Pairwise (· ≤ ·)) : a = sortI ns :=
  List.Perm.eq_of_pairwise (le := fun a b : Int => a ≤ b) (fun a b _ _ h1 h2 => by omega) h2 (sortI_rise ns) (h1.trans (sortI_perm ns).symm)
/-- sorted(xs), a list of ints -/
def sortF (x : Out) (m : Mem) : Option (Out × Mem) := (lstOf x m).bind fun xs => (intsOfX xs).bind fun ns => some (.o (.lst ((sortI ns).map .int)), m)
theorem sortU' {K : PySem.W.Frag} : R1S K (fun v H Q => rSortedI K [v] H Q) sortF := by
  intro ι H H0 m x z vx m' Q rm bd rx hf k
  obtain ⟨xs, h1, hf⟩ := bind_some hf
  obtain ⟨ns, h2, hf⟩ := bind_some hf
  cases hf
  obtain ⟨a, vs, rfl, hs, r⟩ := lst_at rm rx h1
  rw [intsOfX_eq h2] at r
  rw [r.of_ints] at hs
  refine ⟨_, ns, rfl, .inl (.inl hs), fun out p hp hr hn => ?_⟩
  have := sortI_unique hp hr
  subst this
  exact k _ ι _ (Le.newAt hn) (rm.newAt hn) (new_lst rm hn (RVs.ints _))
/-- sum, max, min of a list of ints -/
def sumF (x : Out) (m : Mem) : Option (Out × Mem) := (lstOf x m).bind fun xs => (intsOfX xs).bind fun ns => some (.v (.int ns.sum), m)
theorem sumU {K : PySem.W.Frag} : R1S K (fun v H Q => rSum K [v] H Q) sumF := by
  intro ι H H0 m x z vx m' Q rm bd rx hf k
  obtain ⟨xs, h1, hf⟩ := bind_some hf
  obtain ⟨ns, h2, hf⟩ := bind_some hf
  cases hf
  obtain ⟨a, vs, rfl, hs, r⟩ := lst_at rm rx h1
  rw [intsOfX_eq h2] at r
  rw [r.of_ints] at hs
  exact ⟨_, ns, rfl, .inl (.inl hs), k _ ι H (Le.refl _ _) rm (RV.int _)⟩
def max2F (x y : Out) (m : Mem) : Option (Out × Mem) := match x, y with
  | .v (.int i), .v (.int j) => some (.v (.int (if j > i then j else i)), m)
  | _, _ => none
def min2F (x y : Out) (m : Mem) : Option (Out × Mem) := match x, y with
  | .v (.int i), .v (.int j) => some (.v (.int (if j < i then j else i)), m)
  | _, _ => none
theorem max2U {K : PySem.W.Frag} : R2S K (fun v u H Q => (fun xs H (Q : VK) => ∃ i j, xs = [V.int i, V.int j] ∧ Q (.int (if j > i then j else i)) H) [v, u] H Q) max2F := by
  intro ι H H0 m x y z vx vy m' Q rm bd rx ry hf k
  unfold max2F at hf
  split at hf
  · cases hf; cases rx; cases ry
    exact ⟨_, _, rfl, k _ ι H (Le.refl _ _) rm (RV.int _)⟩
  · cases hf
theorem min2U {K : PySem.W.Frag} : R2S K (fun v u H Q => (fun xs H (Q : VK) => ∃ i j, xs = [V.int i, V.int j] ∧ Q (.int (if j < i then j else i)) H) [v, u] H Q) min2F := by
  intro ι H H0 m x y z vx vy m' Q rm bd rx ry hf k
  unfold min2F at hf
  split at hf
  · cases hf; cases rx; cases ry
    exact ⟨_, _, rfl, k _ ι H (Le.refl _ _) rm (RV.int _)⟩
  · cases hf
section
variable {X : Cx} {a b : Expr} {p pos : Pos} {fa fb : E}
theorem sorted_ (hm : X.mg "sorted" = none) (ha : SE X a fa) (hg : Gl X "sorted" := by rfl) (hs : starEach [a] X.env = (false, eval a X.env) :: starEach [] X.env := by rfl) (hpl : (backTo pos (starEach [] X.env)).any (·.1) = false := by rfl) : SE X (.Call (.Name "sorted" p) [a] [] pos) (eUn sortF fa) :=
  se_b1 (pe_callB cr_sortedI hg hm (by decide +kernel) (pa1 ha hs) (by decide) (by decide) hs hpl) sortU'
theorem sum_ (hm : X.mg "sum" = none) (ha : SE X a fa) (hc : X.calm = true := by rfl) (hg : Gl X "sum" := by rfl) (hs : starEach [a] X.env = (false, eval a X.env) :: starEach [] X.env := by rfl) (hpl : (backTo pos (starEach [] X.env)).any (·.1) = false := by rfl) : SE X (.Call (.Name "sum" p) [a] [] pos) (eUn sumF fa) :=
  se_b1 (pe_callB (cr_sum hc) hg hm (by decide +kernel) (pa1 ha hs) (by decide) (by decide) hs hpl) sumU
theorem max2_ (hm : X.mg "max" = none) (ha : SE X a fa) (hb : SE X b fb) (hc : X.calm = true := by rfl) (hg : Gl X "max" := by rfl) (hs : starEach [a, b] X.env = (false, eval a X.env) :: starEach [b] X.env := by rfl) (hs2 : starEach [b] X.env = (false, eval b X.env) :: starEach [] X.env := by rfl)
    (hpl : (backTo pos (starEach [b] X.env)).any (·.1) = false := by rfl) : SE X (.Call (.Name "max" p) [a, b] [] pos) (eBin max2F fa fb) :=
  se_b2 (pe_callB (call_max2 hc) hg hm (by decide +kernel) (pa2 ha hb hs hs2) (by decide) (by decide) hs hpl) max2U
theorem min2_ (hm : X.mg "min" = none) (ha : SE X a fa) (hb : SE X b fb) (hc : X.calm = true := by rfl) (hg : Gl X "min" := by rfl) (hs : starEach [a, b] X.env = (false, eval a X.env) :: starEach [b] X.env := by rfl) (hs2 : starEach [b] X.env = (false, eval b X.env) :: starEach [] X.env := by rfl)
    (hpl : (backTo pos (starEach [b] X.env)).any (·.1) = false := by rfl) : SE X (.Call (.Name "min" p) [a, b] [] pos) (eBin min2F fa fb) :=
  se_b2 (pe_callB (call_min2 hc) hg hm (by decide +kernel) (pa2 ha hb hs hs2) (by decide) (by decide) hs hpl) min2U
end
end Q
namespace Q
open PySem L2
/-! ### methods of two arguments -/
@[simp] def eMt2 (T : String) (f : F3) (a b c : E) (ρ : Env) (m : Mem) : Option (Out × Mem) := (a ρ m).bind fun x => if isTyB T x.1 x.2 = true then (b ρ x.2).bind fun y => (c ρ y.2).bind fun z => f x.1 y.1 z.1 z.2 else none
section
variable {X : Cx} {e : Expr} {fa fb fc : E} {f2 : F2} {f3 : F3} {r : V → List V → Hp → VK → Prop} {T : String}
theorem se_mt2 (h0 : PE X e (tBM X.K T r (tE X.K fa) (tCons (tE X.K fb) (tCons (tE X.K fc) tNil)))) (hr : R3N X.K (fun v u t H Q => r v [u, t] H Q) f3) : SE X e (eMt2 T f3 fa fb fc) := pe_imp h0 fun σ H Q ⟨ι, ρ, m, z, m', rs, rm, hf, k⟩ => by
  obtain ⟨x, h1, hf⟩ := bind_some hf
  split at hf
  · rename_i ht
    obtain ⟨y, h2, hf⟩ := bind_some hf
    obtain ⟨t, h3, hf⟩ := bind_some hf
    refine ⟨ι, ρ, m, x.1, x.2, rs, rm, h1, fun v ι1 H1 l1 rm1 ro1 bd1 => ⟨tyV_of rm1 ro1 ht, ?_⟩⟩
    refine ⟨ι1, ρ, x.2, y.1, y.2, rs.mono l1, rm1, h2, fun u ι2 H2 l2 rm2 ro2 bd2 => ?_⟩
    refine ⟨ι2, ρ, y.2, t.1, t.2, (rs.mono l1).mono l2, rm2, h3, fun tv ι3 H3 l3 rm3 ro3 bd3 => ?_⟩
    exact hr ι H ι3 H3 t.2 x.1 y.1 t.1 z v u tv m' _ (l1.tr rm1 (l2.tr rm2 l3)) rm3 bd3 ((ro1.mono l2).mono l3) ((ro2.mono l3).from l1 rm1) (ro3.from (l1.tr rm1 l2) rm2) hf fun w ι4 H4 l4 rm4 ro4 bd4 => k w ι4 H4 l4 rm4 ro4 bd4
  · cases hf
end
/-- xs.insert(i, y), i not below 0 -/
def insOk (i : Int) : Prop := 0 ≤ i ∧ i < 2 ^ 63
noncomputable instance (i : Int) : Decidable (insOk i) := Classical.propDecidable _
theorem insOk_nat {n : Nat} (h : n ≤ 1000000000) : insOk (n : Int) := ⟨by omega, by omega⟩
noncomputable def insF (x : Out) (i : Out) (y : Out) (m : Mem) : Option (Out × Mem) := match x, i with
  | .v (.ref n), .v (.int i) => (match m[n]? with
    | some (.lst xs) => if fits (xs.length + 1) ∧ insOk i then some (.v .non, (val y m).2.set n (.lst (xs.take i.toNat ++ [(val y m).1] ++ xs.drop i.toNat))) else none
    | _ => none)
  | _, _ => none
def rIns : V → List V → Hp → VK → Prop := fun x vs H Q => ∃ (l : Addr) (xs : List V) (i : Int) (y : V), x = .ref l ∧ vs = [.int i, y] ∧ H l = some (.lst xs) ∧ xs.length < sizeLine ∧ 0 ≤ i ∧ i < 2 ^ 63 ∧ Q .non (upd H l (.lst (xs.take i.toNat ++ [y] ++ xs.drop i.toNat)))
theorem insU3 {K : PySem.W.Frag} : R3N K (fun v u t H Q => rIns v [u, t] H Q) insF := by
  intro ι0 H0 ι H m x i y z vx vi vy m' Q l rm bd rx ri ry hf k
  unfold insF at hf
  split at hf
  · split at hf
    · rename_i xs hm
      split at hf
      · rename_i hl; cases hf
        cases ri
        cases rx with
        | ref e =>
          obtain ⟨a, e1, vs, e2, r⟩ := rm.ob _ _ hm
          rw [e] at e1; cases e1
          refine ⟨_, vs, _, vy, rfl, rfl, e2, by rw [← r.length]; exact hl.1, hl.2.1, hl.2.2, ?_⟩
          obtain ⟨ι2, l2, rm2, rv2, _, up, ups⟩ := ry.val l rm (RS.nil K ι H)
          cases up _ _ (RV.ref e) with
          | ref e' =>
            obtain ⟨l3, rm3⟩ := set_lst rm2 e' e2 ((((ups _ _ r).take _).append (.cons rv2 .nil)).append ((ups _ _ r).drop _))
            exact k _ ι2 _ (l2.tr rm2 l3) rm3 RV.non
      · cases hf
    · cases hf
  · cases hf
theorem mt_ins {X : Cx} : MtR X "list.insert" rIns := mt_insert
theorem ins_ {X : Cx} {e : Expr} {fa fb fc : E} (h0 : PE X e (tBM X.K "list" rIns (tE X.K fa) (tCons (tE X.K fb) (tCons (tE X.K fc) tNil)))) : SE X e (eMt2 "list" insF fa fb fc) := se_mt2 h0 insU3
theorem ins_eq {n : Nat} {xs : List D} {M : Mem} {i : Nat} {d : D} (h : M[n]? = some (.lst xs)) (hf : xs.length ≤ 90000) (hi : i ≤ 1000000000) : insF (.v (.ref n)) (.v (.int (i : Int))) (.v d) M = some (.v .non, M.set n (.lst (xs.take i ++ [d] ++ xs.drop i))) := by
  simp only [insF, h, if_pos (show fits (xs.length + 1) ∧ insOk (i : Int) from ⟨fits_of (by omega), insOk_nat hi⟩), val_v, Int.toNat_natCast]
/-! ### max, min of a list of ints -/
def maxI : List Int → Int
  | [] => 0
  | n :: ns => ns.foldl max n
def minI : List Int → Int
  | [] => 0
  | n :: ns => ns.foldl min n
theorem foldl_max (ns : List Int) : ∀ n : Int, (ns.foldl max n = n ∨ ns.foldl max n ∈ ns) ∧ n ≤ ns.foldl max n ∧ ∀ y ∈ ns, y ≤ ns.foldl max n := by
  induction ns with
  | nil => intro n; simp
  | cons a ns ih =>
    intro n
    obtain ⟨h1, h2, h3⟩ := ih (max n a)
    simp only [List.foldl_cons]
    refine ⟨?_, by omega, fun y hy => ?_⟩
    · rcases h1 with h1 | h1
      · rw [h1]
        by_cases h : n ≤ a
        · right; rw [Int.max_eq_right h]; simp
        · left; rw [Int.max_eq_left (by omega)]
      · right; simp [h1]
    · rcases List.mem_cons.mp hy with rfl | hy
      · omega
      · exact h3 y hy
theorem foldl_min (ns : List Int) : ∀ n : Int, (ns.foldl min n = n ∨ ns.foldl min n ∈ ns) ∧ ns.foldl min n ≤ n ∧ ∀ y ∈ ns, ns.foldl min n ≤ y := by
  induction ns with
  | nil => intro n; simp
  | cons a ns ih =>
    intro n
    obtain ⟨h1, h2, h3⟩ := ih (min n a)
    simp only [List.foldl_cons]
    refine ⟨?_, by omega, fun y hy => ?_⟩
    · rcases h1 with h1 | h1
      · rw [h1]
        by_cases h : n ≤ a
        · left; rw [Int.min_eq_left h]
        · right; rw [Int.min_eq_right (by omega)]; simp
      · right; simp [h1]
    · rcases List.mem_cons.mp hy with rfl | hy
      · omega
      · exact h3 y hy
theorem maxI_mem {ns : List Int} (h : ns ≠ []) : maxI ns ∈ ns ∧ ∀ y ∈ ns, y ≤ maxI ns := by
  cases ns with
  | nil => exact absurd rfl h
  | cons n ns =>
    obtain ⟨h1, h2, h3⟩ := foldl_max ns n
    refine ⟨?_, fun y hy => ?_⟩
    · rcases h1 with h1 | h1
      · simp [maxI, h1]
      · simp [maxI, h1]
    · rcases List.mem_cons.mp hy with rfl | hy
      · exact h2
      · exact h3 y hy
theorem minI_mem {ns : List Int} (h : ns ≠ []) : minI ns ∈ ns ∧ ∀ y ∈ ns, minI ns ≤ y := by
  cases ns with
  | nil => exact absurd rfl h
  | cons n ns =>
    obtain ⟨h1, h2, h3⟩ := foldl_min ns n
    refine ⟨?_, fun y hy => ?_⟩
    · rcases h1 with h1 | h1
      · simp [minI, h1]
      · simp [minI, h1]
    · rcases List.mem_cons.mp hy with rfl | hy
      · exact h2
      · exact h3 y hy
/-! ### {} and {k: v} as things -/
@[simp] def eKnew (_ : Env) (m : Mem) : Option (Out × Mem) := some (.o (.dct []), m)
theorem se_knew {X : Cx} {pos : Pos} : SE X (.Dict [] [] pos) eKnew := pe_imp pe_dnewK fun σ H Q ⟨ι, ρ, m, z, m', rs, rm, hf, k⟩ => by
  cases hf
  intro p hp bd
  exact k _ ι _ (Le.newAt hp) (rm.newAt hp) ⟨p, rfl, hp, fun z => rm.there p z hp, [], upd_same, .nil⟩ bd
/-- a key that is a number or a text -/
def key1 : D → Option Key
  | .int i => some (.inl i)
  | .str s => some (.inr s)
  | _ => none
theorem key1_kD {d : D} {k : Key} (h : key1 d = some k) : d = kD k := by
  cases d <;> simp [key1] at h <;> subst h <;> rfl
theorem kD_inj {k j : Key} (h : kD k = kD j) : k = j := by
  cases k <;> cases j <;> simp [kD] at h <;> subst h <;> rfl
/-- the pairs of a display -/
def pairsK : List D → Option (List (D × D))
  | [] => some []
  | k :: v :: r => (key1 k).bind fun _ => (pairsK r).bind fun ps => if (ps.map (·.1)).all (fun j => !(j.eqb k)) then some ((k, v) :: ps) else none
  | _ => none
@[simp] def eKd (fr : A) (ρ : Env) (m : Mem) : Option (Out × Mem) := (fr ρ m).bind fun x => (pairsK x.1).bind fun kvs => if kvs.length ≤ 15 then some (.o (.dct kvs), x.2) else none
def flatP : List (V × V) → List V
  | [] => []
  | p :: r => p.1 :: p.2 :: flatP r
def tPs (K : PySem.W.Frag) (fr : A) : St → Hp → (List (V × V) → Hp → Prop) → Prop := fun σ H Q => ∃ ι ρ m ds m', RS K ι H σ ρ ∧ RM K ι H m ∧ fr ρ m = some (ds, m') ∧ ∀ ps ι' H', Le ι H ι' H' → RM K ι' H' m' → RVs K ι' H' ds (flatP ps) → Q ps H'
def SPs (X : Cx) (pos : Pos) (keys : List (Option Expr)) (values : List Expr) (fr : A) : Prop := ∃ trs, PPs X pos keys values trs ∧ ∀ σ H Q, tPs X.K fr σ H Q → tPairs trs σ H Q
theorem sps_nil {X : Cx} {pos : Pos} : SPs X pos [] [] aNil := ⟨[], pps_nil, fun σ H Q ⟨ι, ρ, m, ds, m', rs, rm, hf, k⟩ => by
  cases hf
  exact k [] ι H (Le.refl _ _) rm .nil⟩
theorem sps_cons {X : Cx} {pos : Pos} {a b : Expr} {fa fb : E} {ks : List (Option Expr)} {vs : List Expr} {fr : A} (ha : SE X a fa) (hb : SE X b fb) (hr : SPs X pos ks vs fr) : SPs X pos (some a :: ks) (b :: vs) (aCons fa (aCons fb fr)) := by
  obtain ⟨trs, h1, h2⟩ := hr
  refine ⟨_, pps_cons ha hb h1, fun σ H Q ⟨ι, ρ, m, ds, m', rs, rm, hf, k⟩ => ?_⟩
  obtain ⟨x, h3, hf⟩ := bind_some hf
  obtain ⟨y, h4, hf⟩ := bind_some hf
  obtain ⟨u, h5, h4⟩ := bind_some h4
  obtain ⟨w, h6, h4⟩ := bind_some h4
  cases h4
  cases hf
  refine ⟨ι, ρ, m, x.1, x.2, rs, rm, h3, fun v ι1 H1 l1 rm1 ro1 bd1 => ?_⟩
  obtain ⟨ι1', l1', rm1', rv1, rs1, _, _⟩ := ro1.val l1 rm1 (rs.mono l1)
  refine ⟨ι1', ρ, _, u.1, u.2, rs1, rm1', h5, fun v2 ι2 H2 l2 rm2 ro2 bd2 => ?_⟩
  obtain ⟨ι2', l2', rm2', rv2, rs2, _, _⟩ := ro2.val l2 rm2 (rs1.mono l2)
  refine h2 σ H2 _ ⟨ι2', ρ, _, w.1, w.2, rs2, rm2', h6, fun ps ι3 H3 l3 rm3 rvs => ?_⟩
  exact k ((v, v2) :: ps) ι3 H3 (l1'.tr rm1' (l2'.tr rm2' l3)) rm3 (.cons ((rv1.mono l2').mono l3) (.cons (rv2.mono l3) rvs))
theorem eqb_key {d e : D} {k j : Key} (h1 : key1 d = some k) (h2 : key1 e = some j) (h : d.eqb e = false) : k ≠ j := by
  intro z
  subst z
  rw [key1_kD h1, key1_kD h2] at h
  cases k <;> simp [kD, D.eqb] at h
theorem pairs_rel {K : PySem.W.Frag} {ι : List Addr} {H : Hp} : ∀ (n : Nat) (ds : List D), ds.length ≤ n → ∀ {ps : List (V × V)} {kvs : List (D × D)}, RVs K ι H ds (flatP ps) → pairsK ds = some kvs →
    ∃ ks : List (Key × V), ps = ks.map (fun kv => (kV kv.1, kv.2)) ∧ Paired (fun (p : D × D) (q : Key × V) => p.1 = kD q.1 ∧ RV K ι H p.2 q.2) kvs ks ∧ (ks.map (·.1)).Nodup ∧ (∀ p ∈ kvs, ∃ q ∈ ks, p.1 = kD q.1) ∧ ∀ q ∈ ks, ∃ p ∈ kvs, p.1 = kD q.1
  | _, [], _, ps, kvs, r, h => by
    cases ps with
    | nil => cases h; exact ⟨[], rfl, .nil, by simp, by simp, by simp⟩
    | cons p ps => cases r
  | _, [_], _, ps, kvs, r, h => by cases h
  | 0, _ :: _ :: _, hn, _, _, _, _ => by simp at hn
  | n + 1, d :: e :: r0, hn, ps, kvs, r, h => by
    rw [pairsK] at h
    obtain ⟨k, h1, h⟩ := bind_some h
    obtain ⟨qs, h2, h⟩ := bind_some h
    split at h
    · rename_i hall
      cases h
      cases ps with
      | nil => cases r
      | cons p ps =>
        cases r with
        | cons ra r =>
          cases r with
          | cons rb r =>
            obtain ⟨ks, e1, e2, e3, e4, e5⟩ := pairs_rel n r0 (by simp at hn; omega) r h2
            subst e1
            obtain ⟨pa, pb⟩ := p
            have hk := key1_kD h1
            subst hk
            refine ⟨(k, pb) :: ks, ?_, .cons ⟨rfl, rb⟩ e2, ?_, ?_, ?_⟩
            · cases k with
              | inl i => cases ra; rfl
              | inr i => cases ra; rfl
            · rw [List.map_cons, List.nodup_cons]
              refine ⟨fun hm => ?_, e3⟩
              obtain ⟨q, hq, eq⟩ := List.mem_map.mp hm
              obtain ⟨p', hp', ep'⟩ := e5 q hq
              rw [List.all_eq_true] at hall
              have := hall p'.1 (List.mem_map_of_mem hp')
              rw [ep', eq] at this
              cases k <;> simp [kD, D.eqb] at this
            · intro p hp
              rcases List.mem_cons.mp hp with rfl | hp
              · exact ⟨_, List.mem_cons_self, rfl⟩
              · obtain ⟨q, hq, e⟩ := e4 p hp; exact ⟨q, List.mem_cons_of_mem _ hq, e⟩
            · intro q hq
              rcases List.mem_cons.mp hq with rfl | hq
              · exact ⟨_, List.mem_cons_self, rfl⟩
              · obtain ⟨p, hp, e⟩ := e5 q hq; exact ⟨p, List.mem_cons_of_mem _ hp, e⟩
    · cases h
theorem mergeK_nd : ∀ (ks acc : List (Key × V)), ((acc ++ ks).map (·.1)).Nodup → mergeK acc ks = acc ++ ks
  | [], acc, _ => by simp [mergeK]
  | q :: ks, acc, h => by
    have hn : valV acc q.1 = none := by
      cases e : valV acc q.1 with
      | none => rfl
      | some v =>
        exfalso
        have h1 := valV_any q.1 acc
        rw [e] at h1
        simp only [Option.isSome_some, List.any_eq_true, decide_eq_true_eq] at h1
        obtain ⟨p, hp, ep⟩ := h1
        rw [List.map_append, List.nodup_append] at h
        exact h.2.2 p.1 (List.mem_map_of_mem hp) q.1 (by simp) ep
    have e : mergeK acc (q :: ks) = mergeK (acc ++ [q]) ks := by
      show mergeK (putK acc q.1 q.2) ks = _
      rw [putK_new _ hn]
    rw [e, mergeK_nd ks (acc ++ [q]) (by simpa using h)]
    simp
theorem paired_len {α β : Type} {R : α → β → Prop} {xs : List α} {ys : List β} (h : Paired R xs ys) : xs.length = ys.length := by
  induction h with
  | nil => rfl
  | cons _ _ ih => simp [ih]
theorem se_kd {X : Cx} {pos : Pos} {keys : List (Option Expr)} {values : List Expr} {fr : A} (h : SPs X pos keys values fr) (hall : keys.all (·.isSome) = true) (hl : keys.length = values.length) (h0 : keys ≠ []) (h15 : keys.length ≤ 15) : SE X (.Dict keys values pos) (eKd fr) := by
  obtain ⟨trs, h1, h2⟩ := h
  refine pe_imp (pe_disp h1 hall hl h0 h15) fun σ H Q ⟨ι, ρ, m, z, m', rs, rm, hf, k⟩ => ?_
  obtain ⟨x, h3, hf⟩ := bind_some hf
  obtain ⟨kvs, h4, hf⟩ := bind_some hf
  split at hf
  · rename_i hk15
    cases hf
    intro p hp
    have hpi : p ∉ ι := fun z => rm.there p z hp
    refine h2 σ _ _ ⟨ι, ρ, m, x.1, x.2, rs.mono (Le.newAt hp), rm.newAt hp, h3, fun ps ι2 H2 l2 rm2 rvs => ?_⟩
    have e2 : H2 p = some (.dK []) := l2.keep p _ upd_same (.inr hpi)
    have hp2 : p ∉ ι2 := fun hm => by
      obtain ⟨nw, e, f⟩ := l2.pre
      rw [e] at hm
      rcases List.mem_append.mp hm with z | z
      · exact hpi z
      · have := f p z; rw [upd_same] at this; cases this
    obtain ⟨ks, e3, e4, e5, _, _⟩ := pairs_rel _ x.1 (Nat.le_refl _) rvs h4
    refine ⟨e2, ks, e3, by rw [← paired_len e4]; exact hk15, ?_⟩
    rw [mergeK_nd ks [] (by simpa using e5), List.nil_append]
    have mu : Mut (H2 p) := by rw [e2]; trivial
    have ku : Kp ι2 H2 ι2 (upd H2 p (.dK ks)) := Kp.upd mu
    refine fun bd => k (.ref p) ι2 _ ?_ ?_ ⟨p, rfl, hp, hp2, ks, upd_same, Paired.mapP e4 fun _ _ z => ⟨z.1, z.2.kp ku⟩⟩ bd
    · obtain ⟨nw, e, f⟩ := l2.pre
      refine ⟨⟨nw, e, fun a ha => ?_⟩, fun a o h c => ?_⟩
      · have := f a ha
        by_cases z : a = p
        · subst z; exact hp
        · rw [upd_ne z] at this; exact this
      · have z : a ≠ p := ne_of_none h hp
        rw [upd_ne z]
        exact l2.keep a o (by rw [upd_ne z]; exact h) c
    · exact ⟨rm2.nd, rm2.len, fun n b e => let ⟨a, e1, rb⟩ := rm2.ob n b e; ⟨a, e1, rb.kp ku (upd_ne fun z => by subst z; exact hp2 (List.mem_of_getElem? e1))⟩⟩
  · cases hf
end Q
namespace Q
open PySem L2 DV
/-! ### {k: v} by its entries -/
def tDispR (K : PySem.W.Frag) (tk tv : TE) : TE := fun σ H Q => ∀ p, H p = none → (p == sysModules) = false → tk σ (upd H p (RawO p #[])) fun y H1 => tv σ H1 fun v H2 => H2 p = some (RawO p #[]) ∧ ∃ k, KN K H2 k y ∧ k.depth ≤ 8 ∧
  ∀ es', Paired (EntV K H2) [(k, v)] es'.toList → Q (.ref p) (upd H2 p (RawO p es'))
theorem pe_dispR {X : Cx} {a b : Expr} {tk tv : TE} {pos : Pos} (hu : X.A.units + 65 < cLine) (ha : PE X a tk) (hb : PE X b tv) : PE X (.Dict [some a] [b] pos) (tDispR X.K tk tv) := by
  refine ⟨fun pins s σ H Q I q => ?_⟩
  have hn := I.hok.fresh (Nat.le_refl s.heap.objs.size)
  have I1 := I.laid (a := s.heap.objs.size) (o := RawO s.heap.objs.size #[]) (h' := s.heap.push { cls := .type "dict", data := .dict #[] }) (t' := s.toks) (fun _ _ q => Heap.get?_push_of_some _ q) (Nat.le_refl _) (rawO_new ⟨_, Heap.get?_push_size _ rfl, ⟨rfl, rfl, rfl⟩, rfl⟩)
  have hbig : (s.heap.objs.size == sysModules) = false := beq_eq_false_iff_ne.mpr (Ne.symm (Nat.ne_of_lt I.big))
  rw [arm_eval_Dict, zip_pairTrees [some a] [b] X.env pos rfl rfl, dictDisplay_pairs (pairTrees [some a] [b] X.env pos) (by intro z; cases z) (by show (1 : Nat) < 17; decide)]
  refine wpAny_bind (wpAny_standAt (wpAny_bind ?_))
  unfold subDict
  refine wpAny_bind (wpAny_alloc ?_)
  refine wpAny_bind (wpAny_holding ?_)
  rw [if_pos (by show (1 : Nat) ≤ 15; decide)]
  refine wpAny_bind (pairTrees_cons_walk (thn (ha.run pins _ σ _ _ I1 (q _ hn hbig)) fun u s1 ⟨y, H1, I2, ry, q1⟩ => thn (hb.run pins s1 σ H1 _ I2 q1) fun w2 s2 ⟨v, H2, I3, rv, hp2, k, hk, hd, q2⟩ => pairTrees_nil_walk ?_))
  refine wpAny_holding ?_
  refine wpAny_bind ?_
  rw [List.forIn_cons]
  obtain ⟨es, xs, e1, hm, hp⟩ := dok_of I3 (ks := []) ⟨#[], hp2, .nil, by simp, by simp, hbig⟩
  cases hp
  refine wpAny_bind (wpAny_bind (dset (k := k) (by omega) ⟨hk.is I3 ry, hd⟩ hm (by rw [sizeLine_eq]; decide) fun h' es' hm' hs => wpAny_pure ?_))
  simp only [List.forIn_nil]
  have r' := hm'.raw
  have he : ∃ u, h'.get? s.heap.objs.size = some u := let ⟨o, ho, _⟩ := r'; ⟨o, ho⟩
  refine wpAny_pure (wpAny_pure (wpAny_pure (wpAny_pure ?_)))
  have hse := sto_ents (ks := []) .nil hk ry hd rv hm'
  exact ⟨.ref s.heap.objs.size, upd H2 s.heap.objs.size (RawO s.heap.objs.size es'), I3.write (e := s.heap.objs.size) (t' := s2.toks + k.draws) (by rw [hp2]; trivial) (.inl rfl) (fun b u hb hu => (hs.2 b hb).trans hu) he (rawO_new r'), rfl, q2 es' hse⟩
noncomputable def dispF (x y : Out) (m : Mem) : Option (Out × Mem) := (keyOf x).bind fun k => match y with | .v d => some (.o (.dcr [(k, d)]), m) | _ => none
theorem se_disp {X : Cx} {a b : Expr} {fa fb : E} {pos : Pos} {k : Nat} (hr : Room k X.A) (ha : SE X a fa) (hb : SE X b fb) : SE X (.Dict [some a] [b] pos) (eBin dispF fa fb) := pe_imp (pe_dispR (u65 hr) ha hb) fun σ H Q ⟨ι, ρ, m, z, m', rs, rm, hf, k⟩ => by
  obtain ⟨x, h1, hf⟩ := bind_some hf
  obtain ⟨y, h2, hf⟩ := bind_some hf
  obtain ⟨d, h3, hf⟩ := bind_some hf
  split at hf
  · rename_i dv ey
    cases hf
    intro p hp hsm
    have hpi : p ∉ ι := fun z => rm.there p z hp
    refine ⟨ι, ρ, m, x.1, x.2, rs.mono (Le.newAt hp), rm.newAt hp, h1, fun v ι1 H1 l1 rm1 ro1 bd1 => ?_⟩
    refine ⟨ι1, ρ, x.2, y.1, y.2, (rs.mono (Le.newAt hp)).mono l1, rm1, h2, fun u ι2 H2 l2 rm2 ro2 bd2 => ?_⟩
    have l12 := l1.tr rm1 l2
    have e2 : H2 p = some (RawO p #[]) := l12.keep p _ upd_same (.inr hpi)
    have hp2 : p ∉ ι2 := fun hm => by
      obtain ⟨nw, e, f⟩ := l12.pre
      rw [e] at hm
      rcases List.mem_append.mp hm with z | z
      · exact hpi z
      · have := f p z; rw [upd_same] at this; cases this
    obtain ⟨nk', e3, e4, e5⟩ := key_at (ro1.mono l2) h3
    subst e3
    rw [ey] at ro2
    have rv : RV X.K ι2 H2 dv u := ro2
    refine ⟨e2, nk', e4, e5, fun es' hes bd => ?_⟩
    have mu : Mut (H2 p) := by rw [e2]; trivial
    have ku : Kp ι2 H2 ι2 (upd H2 p (RawO p es')) := Kp.upd mu
    refine k (.ref p) ι2 _ ?_ ?_ ⟨p, rfl, hp, hp2, [(nk', u)], ⟨es', upd_same, Paired.mapP hes fun x e ⟨⟨kv, z1, z2⟩, z3⟩ => ⟨⟨kv, z1.kp ku, z2⟩, z3⟩, by simp, by rw [sizeLine_eq]; simp, hsm⟩, .cons ⟨rfl, rv.kp ku⟩ .nil⟩ bd
    · obtain ⟨nw, e, f⟩ := l12.pre
      refine ⟨⟨nw, e, fun a ha => ?_⟩, fun a o h c => ?_⟩
      · have := f a ha
        by_cases z : a = p
        · subst z; exact hp
        · rw [upd_ne z] at this; exact this
      · have z : a ≠ p := ne_of_none h hp
        rw [upd_ne z]
        exact l12.keep a o (by rw [upd_ne z]; exact h) c
    · exact ⟨rm2.nd, rm2.len, fun n b e => let ⟨a, e1, rb⟩ := rm2.ob n b e; ⟨a, e1, rb.kp ku (upd_ne fun z => by subst z; exact hp2 (List.mem_of_getElem? e1))⟩⟩
  · cases hf
/-! ### dicts with keys that are numbers or texts: d[k], d[k] = v -/
def kdOf (x : Out) (m : Mem) : Option (List (D × D)) := match x with
  | .v (.ref n) => (match m[n]? with | some (.dct a) => some a | _ => none)
  | _ => none
noncomputable def kixF (x y : Out) (m : Mem) : Option (Out × Mem) := (kdOf x m).bind fun kvs => match y with
  | .v d => (key1 d).bind fun _ => (dlook kvs d).map fun v => (.v v, m)
  | _ => none
theorem klook {K : PySem.W.Frag} {ι : List Addr} {H : Hp} {kvs : List (D × D)} {ks : List (Key × V)} {k : Key} (h : Paired (fun (p : D × D) (q : Key × V) => p.1 = kD q.1 ∧ RV K ι H p.2 q.2) kvs ks) :
    (dlook kvs (kD k) = none ∧ valV ks k = none) ∨ ∃ v u, dlook kvs (kD k) = some v ∧ valV ks k = some u ∧ RV K ι H v u := by
  induction h with
  | nil => exact .inl ⟨rfl, rfl⟩
  | @cons p q ps qs h _ ih =>
    by_cases e : q.1 = k
    · right
      refine ⟨p.2, q.2, ?_, valV_pos e, h.2⟩
      unfold dlook
      rw [List.find?_cons_of_pos (by simp [h.1, e])]; rfl
    · have e2 : ¬ p.1 = kD k := by rw [h.1]; exact fun z => e (kD_inj z)
      have e3 : dlook (p :: ps) (kD k) = dlook ps (kD k) := by
        unfold dlook
        rw [List.find?_cons_of_neg (by simp [e2])]
      rw [e3, valV_neg e]
      exact ih
theorem ksto {K : PySem.W.Frag} {ι : List Addr} {H : Hp} {kvs : List (D × D)} {ks : List (Key × V)} {k : Key} {v : D} {u : V} (h : Paired (fun (p : D × D) (q : Key × V) => p.1 = kD q.1 ∧ RV K ι H p.2 q.2) kvs ks) (hv : RV K ι H v u) :
    Paired (fun (p : D × D) (q : Key × V) => p.1 = kD q.1 ∧ RV K ι H p.2 q.2) (dsto kvs (kD k) v) (putK ks k u) := by
  unfold dsto putK
  have hb : (ks.any fun kv => decide (kv.1 = k)) = (dlook kvs (kD k)).isSome := by
    rw [valV_any]
    rcases klook (k := k) h with ⟨h1, h2⟩ | ⟨_, _, h1, h2, _⟩ <;> rw [h1, h2] <;> rfl
  rw [hb]
  by_cases hs : (dlook kvs (kD k)).isSome = true
  · rw [if_pos hs, if_pos hs]
    clear hb hs
    induction h with
    | nil => exact .nil
    | @cons p q ps qs h _ ih =>
      refine .cons ?_ ih
      by_cases e : q.1 = k
      all_goals simp only
      · rw [if_pos e, if_pos (by rw [h.1, e])]; exact ⟨h.1, hv⟩
      · rw [if_neg e, if_neg (by rw [h.1]; exact fun z => e (kD_inj z))]; exact h
  · rw [if_neg hs, if_neg hs]
    clear hb hs
    induction h with
    | nil => exact .cons ⟨rfl, hv⟩ .nil
    | cons h _ ih => exact .cons h ih
theorem key1_v {K : PySem.W.Frag} {ι : List Addr} {H : Hp} {d : D} {v : V} {k : Key} (r : RV K ι H d v) (h : key1 d = some k) : v = kV k := by
  cases d <;> simp [key1] at h <;> subst h <;> cases r <;> rfl
theorem se_kix {X : Cx} {a b : Expr} {fa fb : E} {pos : Pos} {k : Nat} (hr : Room k X.A) (ha : SE X a fa) (hb : SE X b fb) (hs : NoSl b := by exact fun _ _ => rfl) : SE X (.Subscript a b pos) (eBin kixF fa fb) :=
  pe_imp (pe_dget (hu_of hr) ha hb hs) fun σ H Q ⟨ι, ρ, m, z, m', rs, rm, hf, k⟩ => by
  obtain ⟨x, h1, hf⟩ := bind_some hf
  obtain ⟨y, h2, hf⟩ := bind_some hf
  obtain ⟨kvs, h3, hf⟩ := bind_some hf
  refine ⟨ι, ρ, m, x.1, x.2, rs, rm, h1, fun v ι1 H1 l1 rm1 ro1 bd1 => ?_⟩
  refine ⟨ι1, ρ, x.2, y.1, y.2, rs.mono l1, rm1, h2, fun u ι2 H2 l2 rm2 ro2 bd2 => ?_⟩
  split at hf
  · rename_i d ey
    obtain ⟨kk, h4, hf⟩ := bind_some hf
    obtain ⟨dv, h5, h6⟩ := Option.map_eq_some_iff.mp hf
    cases h6
    rw [ey] at ro2
    have ru := key1_v ro2 h4
    subst ru
    have ro1' := ro1.mono l2
    unfold kdOf at h3
    split at h3
    · rename_i n ex
      split at h3
      · rename_i kvs' hm; cases h3
        rw [ex] at ro1'
        cases ro1' with
        | ref e =>
          obtain ⟨a, e1, ks, e2, r⟩ := rm2.ob _ _ hm
          rw [e] at e1; cases e1
          rw [key1_kD h4] at h5
          rcases klook (k := kk) r with ⟨q1, q2⟩ | ⟨v0, u0, q1, q2, rr⟩
          · rw [q1] at h5; cases h5
          · rw [q1] at h5; cases h5
            exact ⟨_, u0, rfl, by have := DGet.k (k := kk) e2; rw [q2] at this; exact this, fun bd => k _ ι2 H2 (l1.tr rm1 l2) rm2 rr bd⟩
      · cases h3
    · cases h3
  · cases hf
noncomputable def kstoF (o i : Out) (d : D) (m : Mem) : Option Mem := match o with
  | .v (.ref n) => (match m[n]? with
    | some (.dct kvs) => (match i with | .v kd => (key1 kd).bind fun _ => if fits (kvs.length + 1) then some (m.set n (.dct (dsto kvs kd d))) else none | _ => none)
    | _ => none)
  | _ => none
@[simp] noncomputable def sKput (e o i : E) (ρ : Env) (m : Mem) : Option R := (e ρ m).bind fun x => (o ρ (val x.1 x.2).2).bind fun y => (i ρ y.2).bind fun z => (kstoF y.1 z.1 (val x.1 x.2).1 z.2).bind fun m' => some (.nx ρ m')
theorem set_dct {K : PySem.W.Frag} {ι : List Addr} {H : Hp} {m : Mem} {n : Nat} {a : Addr} {ks : List (Key × V)} {kvs' : List (D × D)} {ks' : List (Key × V)} (rm : RM K ι H m) (e : ι[n]? = some a) (h : H a = some (.dK ks))
    (r : Paired (fun (p : D × D) (q : Key × V) => p.1 = kD q.1 ∧ RV K ι H p.2 q.2) kvs' ks') : Le ι H ι (upd H a (.dK ks')) ∧ RM K ι (upd H a (.dK ks')) (m.set n (.dct kvs')) := by
  have mu : Mut (H a) := by rw [h]; trivial
  have ku : Kp ι H ι (upd H a (.dK ks')) := Kp.upd mu
  have hi : a ∈ ι := List.mem_of_getElem? e
  refine ⟨⟨⟨[], by simp, by simp⟩, fun b u hb c => ?_⟩, rm.nd, by rw [List.length_set]; exact rm.len, fun j b hb => ?_⟩
  · by_cases z : b = a
    · subst z
      rcases c with c | c
      · rw [hb] at mu; exact (nofz mu c).elim
      · exact absurd hi c
    · rw [upd_ne z]; exact hb
  · by_cases hj : n = j
    · subst hj
      have hl : n < m.length := by rw [← rm.len]; exact (List.getElem?_eq_some_iff.mp e).1
      rw [List.getElem?_set_self hl] at hb
      cases hb
      exact ⟨a, e, ks', upd_same, Paired.mapP r fun _ _ z => ⟨z.1, z.2.kp ku⟩⟩
    · rw [List.getElem?_set_ne hj] at hb
      obtain ⟨b', e1, rb⟩ := rm.ob j b hb
      refine ⟨b', e1, rb.kp ku (upd_ne fun z => hj ?_)⟩
      subst z
      have h1 := (List.getElem?_eq_some_iff.mp e)
      have h2 := (List.getElem?_eq_some_iff.mp e1)
      exact nd_inj rm.nd h1.1 h2.1 (h1.2.trans h2.2.symm)
theorem ss_kput {X : Cx} {st : Stmt} {fe fo fi : E} (h0 : PS X st (sDPut (tE X.K fo) (tE X.K fi) (tE X.K fe))) : SS X st (sKput fe fo fi) := ps_imp h0 fun D σ H ⟨ι, ρ, m, r, rs, rm, hf, k⟩ => by
  obtain ⟨x, h1, hf⟩ := bind_some hf
  obtain ⟨y, h2, hf⟩ := bind_some hf
  obtain ⟨z, h3, hf⟩ := bind_some hf
  obtain ⟨m', h4, hf⟩ := bind_some hf
  cases hf
  refine ⟨ι, ρ, m, x.1, x.2, rs, rm, h1, fun v ι1 H1 l1 rm1 ro1 bd1 => ?_⟩
  obtain ⟨ι1', l1', rm1', rv1, rs1, _, _⟩ := ro1.val l1 rm1 (rs.mono l1)
  refine ⟨ι1', ρ, _, y.1, y.2, rs1, rm1', h2, fun v2 ι2 H2 l2 rm2 ro2 bd2 => ?_⟩
  refine ⟨ι2, ρ, y.2, z.1, z.2, rs1.mono l2, rm2, h3, fun v3 ι3 H3 l3 rm3 ro3 bd3 => ?_⟩
  unfold kstoF at h4
  split at h4
  · rename_i n ey
    split at h4
    · rename_i kvs hm
      split at h4
      · rename_i kd ez
        obtain ⟨kk, h5, h4⟩ := bind_some h4
        split at h4
        · rename_i hz; cases h4
          have ro2' := ro2.mono l3
          rw [ey] at ro2'
          rw [ez] at ro3
          have ru := key1_v ro3 h5
          subst ru
          cases ro2' with
          | ref e =>
            obtain ⟨a, e1, ks, e2, r⟩ := rm3.ob _ _ hm
            rw [e] at e1; cases e1
            have hkd := key1_kD h5
            subst hkd
            obtain ⟨l4, rm4⟩ := set_dct rm3 e e2 (ksto (k := kk) r ((rv1.mono l2).mono l3))
            exact ⟨_, _, rfl, DPut.k e2 (by rw [← paired_len r]; exact hz), k σ ι3 _ (l1'.tr rm1' (l2.tr rm2 (l3.tr rm3 l4))) (((rs1.mono l2).mono l3).mono l4) rm4⟩
        · cases h4
      · cases h4
    · cases h4
  · cases h4
end Q
/-! xs.index(x), xs a list of data -/
namespace Q
open PySem L2
def idxLF (x y : Out) (m : Mem) : Option (Out × Mem) := (lstOf x m).bind fun ds => match y with
  | .v a => if okL 63 ds = true ∧ okD 64 a = true then (ds.findIdx? fun d => d.eqb a).map fun j => (.v (.int (j : Nat)), m) else none
  | _ => none
theorem okL_mem' {n : Nat} : ∀ {xs : List D} {d : D}, okL n xs = true → d ∈ xs → okD n d = true
  | [], _, _, h => by simp at h
  | x :: xs, d, h, hd => by
    rw [okL, Bool.and_eq_true] at h
    rcases List.mem_cons.mp hd with rfl | hd
    · exact h.1
    · exact okL_mem' h.2 hd
theorem idxLU {K : PySem.W.Frag} : R2S K (fun v u H Q => rIndexD K v [u] H Q) idxLF := by
  intro ι H H0 m x y z vx vy m' Q rm bd rx ry hf k
  obtain ⟨ds, h1, hf⟩ := bind_some hf
  cases y with
  | o b => cases hf
  | v a =>
    simp only at hf
    split at hf
    · rename_i hc
      obtain ⟨j, e1, e2⟩ := Option.map_eq_some_iff.mp hf
      cases e2
      obtain ⟨p, vs, rfl, hs, r⟩ := lst_at rm rx h1
      have hd := RVs.dp r hc.1
      have ha : Dp K H vy a.pd := RV.dp ry hc.2
      have hfl : okD 64 (.fl ds) = true := by rw [okD]; exact hc.1
      have hsh := shaped_of hfl
      rw [D.pd] at hsh
      obtain ⟨hj, ht, hno⟩ := List.findIdx?_eq_some_iff_getElem.mp e1
      have hget : ∀ (i : Nat) (hi : i < ds.length), (pdL ds)[i]? = some ds[i].pd := by
        intro i hi
        have : ∀ (l : List D) (i : Nat) (hi : i < l.length), (pdL l)[i]? = some l[i].pd := by
          intro l
          induction l with
          | nil => intro i hi; simp at hi
          | cons d l ih =>
            intro i hi
            rw [pdL]
            cases i with
            | zero => rfl
            | succ i => simpa using ih i (by simpa using hi)
        exact this ds i hi
      refine ⟨p, vy, a.pd, pdL ds, j, ds[j].pd, rfl, rfl, .lst (.inl (.inl hs)) hd, ha, hsh, shaped_of hc.2, hget j hj, ?_, fun i z' hi hz => ?_, k _ ι H (Le.refl _ _) rm (RV.int _)⟩
      · rw [pd_eqv ds[j] a 63 64 (okL_mem' hc.1 (List.getElem_mem hj)) hc.2]; exact ht
      · have hi2 : i < ds.length := by omega
        rw [hget i hi2] at hz
        cases hz
        rw [pd_eqv ds[i] a 63 64 (okL_mem' hc.1 (List.getElem_mem hi2)) hc.2]
        simpa using hno i hi
    · cases hf
theorem idxL_ {X : Cx} {e : Expr} {fa fb : E} (h0 : PE X e (tBM X.K "list" (rIndexD X.K) (tE X.K fa) (tCons (tE X.K fb) tNil))) : SE X e (eMt1 "list" idxLF fa fb) := se_mt1 h0 idxLU.n
end Q
/-! a tuple, some times -/
namespace Q
open PySem PySem.Spec PyProof.Rows L2
theorem tuple_mul1 (l : Addr) (items : Array Value) (n : Nat) (dd : Option Addr) (sl : Array (Option Value)) (x : Int) (u : Tok) (c0 : (decide (x < -(2 ^ 63)) || decide (x ≥ 2 ^ 63)) = false) (c1 : (items.isEmpty || x == 1) = true) :
    Meets (Builtin.«tuple.__mul__» ⟨[.ref l, .int x u], []⟩) (fun _ R s => s.heap.get? l = some { cls := .type "tuple", dict := dd, data := .seq items n, slots := sl } ∧
      R (.ok (.ret (Value.ref l))) s) :=
  .of_wp fun prog w A R s h => by
    obtain ⟨hp, g, d, tk, os⟩ := s
    obtain ⟨hl, h⟩ := h
    have f1 := AutoSeq1.idx_int
    wp_walk using wpAny_loadPart' hl
    repeat (first
      | (refine wpAny_ite_false (decide_eq_false (by rw [c0]; exact Bool.false_ne_true)) ?_; wp_walk using wpAny_loadPart' hl)
      | (refine wpAny_ite_true (decide_eq_true (by rw [c1])) ?_; wp_walk using wpAny_loadPart' hl))
    exact ⟨_, rfl, h⟩
def rRepN (K : PySem.W.Frag) : R2 := fun x y H Q => ∃ l k xs, x = .ref l ∧ y = .int k ∧ SqT K H l xs ∧ xs ≠ [] ∧ 1 ≤ k ∧ k ≤ 1000 ∧ xs.length ≤ 1000 ∧ (k = 1 → Q (.ref l) H) ∧ (2 ≤ k → TpN H (List.replicate k.toNat xs).flatten Q)
section
variable {X : Cx}
theorem op_repN : OpR X (binaryOp .Mult) (rRepN X.K) := by
  intro pins s σ H x y v u Q I rx ry h
  obtain ⟨l, k, xs, rfl, rfl, hT, hne, h1, h2, hz, q1, q⟩ := h
  cases rx
  obtain ⟨t, rfl⟩ := ry
  obtain ⟨its, r, ⟨⟨cls, dd, data, sl⟩, ho, hc, n, hd⟩, hs⟩ := I.tuple hT
  simp only at hc hd
  subst hc hd
  have hle : its.length = xs.length := r.length.symm
  have hn : its ≠ [] := fun e => hne (by
    rw [e] at hle
    exact List.eq_nil_of_length_eq_zero hle.symm)
  have hi : its.toArray.isEmpty = false := by
    cases its with
    | nil => exact absurd rfl hn
    | cons a b => rfl
  have c0 : (decide (k < -(2 ^ 63)) || decide (k ≥ 2 ^ 63)) = false := by
    rw [decide_eq_false (by omega), decide_eq_false (by omega)] <;> rfl
  by_cases hk1 : k = 1
  · have c1 : (its.toArray.isEmpty || k == 1) = true := by rw [hi, Bool.false_or, hk1]; rfl
    refine wpAny_binaryOp_repeat_ref (T := "tuple") (U := "int") (by decide) ⟨_, ho, rfl⟩ (fun s' => typeIs_int s' k t) noFill_tuple_mul F.fills_int_mul F.slot_int_rmul repeat_tuple F.slot_int_index.lookup
      (call_meets F.slot_int_rmul (typeIs_int s k t) F.entry_int_rmul (F.args_int_rmul_2 _ _) (int_rmul_tuple k t l its.toArray n dd sl)
        ⟨ho, rfl, ⟨_, ho, rfl⟩, call_meets F.slot_tuple_mul ⟨_, ho, rfl⟩ F.entry_tuple_mul (F.args_tuple_mul_2 _ _) (tuple_mul1 l its.toArray n dd sl k t c0 c1) ⟨ho, ?_⟩⟩)
    exact ⟨.ref l, H, I, rfl, q1 hk1⟩
  have hsz0 : its.toArray.size = xs.length := by rw [List.size_toArray, hle]
  have hm : ((its.toArray.size : Nat) : Int) * k ≤ 1000000 := by
    rw [hsz0]
    have a1 : ((xs.length : Nat) : Int) * k ≤ 1000 * k := Int.mul_le_mul_of_nonneg_right (by omega) (by omega)
    omega
  have flen : (List.replicate k.toNat its).flatten.length ≤ sizeLine := by
    rw [PyProof.Rows.lm_len_rep_flat, hle, sizeLine_eq]
    have a1 : k.toNat * xs.length ≤ 1000 * 1000 := Nat.mul_le_mul (by omega) hz
    omega
  have c1 : (its.toArray.isEmpty || k == 1) = false := by
    rw [hi, Bool.false_or]
    exact beq_eq_false_iff_ne.mpr (by omega)
  have c2 : (decide (k ≤ 0) || its.toArray.isEmpty) = false := by
    rw [hi, Bool.or_false]
    exact decide_eq_false (by omega)
  have c4 : Builtin.Tuple.tupleTooMany (((its.toArray.size : Nat) : Int) * k) = false := by
    unfold Builtin.Tuple.tupleTooMany
    rw [sizeLine_eq]
    exact decide_eq_false (by omega)
  refine wpAny_binaryOp_repeat_ref (T := "tuple") (U := "int") (by decide) ⟨_, ho, rfl⟩ (fun s' => typeIs_int s' k t) noFill_tuple_mul F.fills_int_mul F.slot_int_rmul repeat_tuple F.slot_int_index.lookup
    (call_meets F.slot_int_rmul (typeIs_int s k t) F.entry_int_rmul (F.args_int_rmul_2 _ _) (int_rmul_tuple k t l its.toArray n dd sl)
      ⟨ho, rfl, ⟨_, ho, rfl⟩, call_meets F.slot_tuple_mul ⟨_, ho, rfl⟩ F.entry_tuple_mul (F.args_tuple_mul_2 _ _) (tuple_mulW l its.toArray n dd sl k t c0 c1 c2 (by omega) c4 (by rw [size_rep, List.size_toArray]; exact flen)) ⟨ho, ?_⟩⟩)
  rw [size_rep]
  refine ⟨.ref s.heap.objs.size, _, I.laid (t' := s.toks) (o := .frz _ (.tup (List.replicate k.toNat xs).flatten)) (fun b ob q => Heap.get?_push_of_some _ q) (Nat.le_refl _) (tup_ok ?_ (r.rep k.toNat) rfl (Heap.get?_push_size _ rfl)), rfl, q (by omega) _ _ (I.hok.fresh (Nat.le_refl _)) rfl⟩
  rw [PyProof.Rows.lm_len_rep_flat, sizeLine_eq]
  have a1 : k.toNat * xs.length ≤ 1000 * 1000 := Nat.mul_le_mul (by omega) hz
  omega
end
noncomputable def mulTF (x : Out) (y : Out) (m : Mem) : Option (Out × Mem) := match x, y with
  | .v (.tup a), .v (.int k) => if a ≠ [] ∧ 1 ≤ k ∧ k ≤ 1000 ∧ a.length ≤ 1000 then some (.v (.tup (List.replicate k.toNat a).flatten), m) else none
  | _, _ => none
theorem RVs.nil_iff {K : PySem.W.Frag} {ι : List Addr} {H : Hp} {ds : List D} {vs : List V} (r : RVs K ι H ds vs) : vs = [] ↔ ds = [] := by
  cases r with
  | nil => simp
  | cons _ _ => simp
theorem mulTU {K : PySem.W.Frag} : R2S K (rRepN K) mulTF := by
  intro ι H H0 m x y z vx vy m' Q rm bd rx ry hf k
  unfold mulTF at hf
  split at hf
  · split at hf
    · rename_i a n hj
      cases hf
      cases ry
      cases rx with
      | tup ht r =>
        rename_i p vs
        refine ⟨p, n, vs, rfl, rfl, ht.sq, fun e => hj.1 (r.nil_iff.mp e), hj.2.1, hj.2.2.1, by rw [← r.length]; exact hj.2.2.2, fun e => ?_, fun e q o hq ho => ?_⟩
        · refine k _ ι H (Le.refl _ _) rm ?_
          subst e
          have : (List.replicate (1 : Int).toNat a).flatten = a := by simp [List.replicate]
          rw [this]
          exact RV.tup ht r
        · exact k _ ι _ (Le.newAt hq) (rm.newAt hq) (RV.tup (.inl ⟨o, upd_same, ho⟩) ((r.rep _).kp (Kp.newAt hq)))
    · cases hf
  · cases hf
theorem mulT_ {X : Cx} {a b : Expr} {pos : Pos} {fa fb : E} (ha : SE X a fa) (hb : SE X b fb) : SE X (.BinOp a .Mult b pos) (eBin mulTF fa fb) := se_op op_repN mulTU ha hb
theorem mulT_one {d : D} {n : Nat} (hn : 0 < n) (hn2 : n ≤ 1000) (M : Mem) : mulTF (.v (.tup [d])) (.v (.int (n : Int))) M = some (.v (.tup (List.replicate n d)), M) := by
  have e : (List.replicate n [d]).flatten = List.replicate n d := by
    induction n with
    | zero => rfl
    | succ n ih =>
      by_cases h0 : n = 0
      · subst h0; rfl
      · rw [List.replicate_succ, List.flatten_cons, ih (by omega) (by omega)]; rfl
  have hc : [d] ≠ [] ∧ 1 ≤ (n : Int) ∧ (n : Int) ≤ 1000 ∧ [d].length ≤ 1000 := ⟨by simp, by omega, by omega, by simp⟩
  simp only [mulTF, if_pos hc, Int.toNat_natCast, e]
end Q
/-! a dict by its entries, walked: its keys, its items -/
namespace Q
open PySem L2
theorem pgets {α β : Type} {R : α → β → Prop} {xs : List α} {ys : List β} (h : Paired R xs ys) : ∀ {i : Nat} {x : α}, xs[i]? = some x → ∃ y, ys[i]? = some y ∧ R x y := by
  induction h with
  | nil => intro i x e; simp at e
  | cons r _ ih =>
    intro i x e
    cases i with
    | zero => simp at e; subst e; exact ⟨_, rfl, r⟩
    | succ i => obtain ⟨y, h1, h2⟩ := ih (by simpa using e); exact ⟨y, by simpa using h1, h2⟩
def ItK (K : PySem.W.Frag) (a : Addr) (n : Nat) : It :=
  ⟨fun i H => (∃ ks, RawD K H a ks ∧ ks.length = n) ∧ i < n, fun i H x H' => H' = H ∧ ∀ ks, RawD K H a ks → ∃ k v, ks[i]? = some (k, v) ∧ KN K H k x, fun i H => (∃ ks, RawD K H a ks ∧ ks.length = n) ∧ n ≤ i⟩
def ItI (K : PySem.W.Frag) (a : Addr) (n : Nat) : It :=
  ⟨fun i H => (∃ ks, RawD K H a ks ∧ ks.length = n) ∧ i < n, fun i H x H' => ∃ p kv v, x = .ref p ∧ H p = none ∧ H' = upd H p (.tup [kv, v]) ∧ ∀ ks, RawD K H a ks → ∃ k, ks[i]? = some (k, v) ∧ KN K H k kv, fun i H => (∃ ks, RawD K H a ks ∧ ks.length = n) ∧ n ≤ i⟩
section
variable {X : Cx} {pins : List (Addr × Obj)} {σ : St} {H : Hp} {s : Shared}
theorem raw_heap (I : Inv X pins σ H s) {a : Addr} {ks : List (NestedKey × V)} (h : RawD X.K H a ks) : ∃ es : Array DictEntry, s.heap.DictRaw a es es.size ∧ Paired (EntV X.K H) ks es.toList ∧ (a == sysModules) = false ∧ es.size = ks.length := by
  obtain ⟨es, h1, h2, h3, h4, h5⟩ := h
  obtain ⟨hr, _⟩ := (show ObjOk X.prog X.w H s.heap a (RawO a es) from I.hok a _ h1)
  exact ⟨es, hr, h2, h5, by rw [← Array.length_toList]; exact (Paired.length h2).symm⟩
theorem raw_same {h : Heap} {a : Addr} {es es' : Array DictEntry} {ep ep' : Nat} (x : h.DictRaw a es ep) (y : h.DictRaw a es' ep') : es = es' := by
  obtain ⟨o, e1, _, d1⟩ := x
  obtain ⟨o', e2, _, d2⟩ := y
  rw [e1] at e2; cases e2
  rw [d1] at d2; cases d2
  rfl
theorem raw_item (I : Inv X pins σ H s) {a : Addr} {n i : Nat} (h : ∃ ks, RawD X.K H a ks ∧ ks.length = n) (hi : i < n) : ∃ es : Array DictEntry, ∃ hi : i < es.size, s.heap.DictRaw a es es.size ∧ es.size = n ∧ ∃ kv v, RelV kv es[i].key ∧ RelV v es[i].val ∧ ∀ ks, RawD X.K H a ks → ∃ k, ks[i]? = some (k, v) ∧ KN X.K H k kv := by
  obtain ⟨ks, hr, hl⟩ := h
  obtain ⟨es, hm, hp, hs, hz⟩ := raw_heap I hr
  have hie : i < es.size := by omega
  have hik : i < ks.length := by omega
  obtain ⟨e, he, ⟨kv, k1, k2⟩, k3, k4, k5⟩ := pgets hp (List.getElem?_eq_getElem hik)
  have hee : es[i] = e := by
    rw [Array.getElem?_toList, Array.getElem?_eq_getElem hie] at he
    exact Option.some.inj he
  refine ⟨es, hie, hm, by omega, kv, ks[i].2, by rw [hee]; exact k2, by rw [hee]; exact k4, fun ks' hr' => ?_⟩
  obtain ⟨es', hm', hp', hs', hz'⟩ := raw_heap I hr'
  have := raw_same hm hm'
  subst this
  have hik' : i < ks'.length := by omega
  obtain ⟨e', he', ⟨kv', j1, j2⟩, j3, j4, j5⟩ := pgets hp' (List.getElem?_eq_getElem hik')
  rw [Array.getElem?_toList, Array.getElem?_eq_getElem hie] at he'
  have hee' : e = e' := hee.symm.trans (Option.some.inj he')
  subst hee'
  refine ⟨ks'[i].1, ?_, ?_⟩
  · rw [List.getElem?_eq_getElem hik', k4.inj j4]
  · rw [k2.inj j2]; exact j1
end
theorem turn_keyR {P : Program} {w : World} {K : PySem.W.Frag} {tg : Expr} (a it : Addr) (n : Nat) : Turn P w K tg (ItK K a n) [it] it (fun i h => h.IsKeyIter it a i n n) where
  mem := by simp
  obj := fun i h st b hb => by
    have e : b = it := by simpa using hb
    subst e
    obtain ⟨oi, e, c, dd⟩ := st
    exact ⟨oi, e, fun v z => by rw [dd] at z; cases z⟩
  keep := fun i h h' st k => st.at fun oi e => k it (by simp) oi e
  item := by
    intro X hP hw hK hc i pins s σ H E I hf st hg
    subst hP hw hK
    obtain ⟨f0, f1, f2, f3, f4, f5⟩ := hf it (by simp)
    obtain ⟨es, hie, hm, hz, kv, v, rk, rv, al⟩ := raw_item I hg.1 hg.2
    subst hz
    refine wpAny_pyNext_keys_item_raw st hm hie fun h' st' sb => ?_
    have I1 : Inv X pins σ H { s with heap := h' } := I.turned (t' := s.toks) (fun b ob hb e => (sb.2 b hb).trans e) f0 f1 f3 f4 f5
    obtain ⟨oi, e, c, dd⟩ := id st'
    exact ⟨_, rfl, go_of (s := { s with heap := h' }) e c dd (by decide) ⟨kv, H, I1, rk, ⟨rfl, fun ks hr => let ⟨k, e1, e2⟩ := al ks hr; ⟨k, v, e1, e2⟩⟩, st', fun b hb => (hf b hb).1⟩⟩
  done := by
    intro X hP hw hK hc i pins s σ H E I hf st hg
    subst hP hw hK
    obtain ⟨⟨ks, hr, hl⟩, hi⟩ := hg
    obtain ⟨f0, f1, f2, f3, f4, f5⟩ := hf it (by simp)
    obtain ⟨es, hm, hp, hs, hz⟩ := raw_heap I hr
    obtain rfl : n = es.size := by omega
    exact wpAny_pyNext_keys_end_raw (I.ok.hd hc) st hm hi fun h' eb => ⟨rfl, I.turned (t' := s.toks) (fun b ob hb e => eb b ob hb e) f0 f1 f3 f4 f5⟩
  self := fun A i s Q E st h => by
    refine wpAny_pyIter_slot st.typeIs F.slot_dict_keyiterator_iter (wpAny_call_entry F.slot_dict_keyiterator_iter st.typeIs F.entry_dict_keyiterator_iter ?_ (F.args_dict_keyiterator_iter_1 _))
    show wpAny _ _ (ret (.ref it)) _ _ s
    exact wpAny_pure ⟨_, rfl, "dict_keyiterator", _, st.typeIs, F.slot_dict_keyiterator_next.lookup, h⟩
theorem turn_itemR {P : Program} {w : World} {K : PySem.W.Frag} {elts : List Expr} {kk : Nat} {tpos : Pos} (a it : Addr) (n : Nat) :
    Turn P w K (.Tuple elts kk tpos) (ItI K a n) [it] it (fun i h => ∃ ok ov, IsItemIter h it a i n n ok ov) where
  mem := by simp
  obj := fun i h st b hb => by
    have e : b = it := by simpa using hb
    subst e
    obtain ⟨ok, ov, e⟩ := st
    exact ⟨_, e, fun v z => nomatch z⟩
  keep := fun i h h' st k => let ⟨ok, ov, e⟩ := st; ⟨ok, ov, k it (by simp) _ e⟩
  item := by
    intro X hP hw hK hc i pins s σ H E I hf st hg
    subst hP hw hK
    obtain ⟨es, hie, hm, hz, kv, v, rk, rv, al⟩ := raw_item I hg.1 hg.2
    subst hz
    obtain ⟨ok, ov, he⟩ := st
    have hlt : it < s.heap.objs.size := Heap.lt_size he
    refine wpAny_pyNext_items_item_raw he hm hie fun h' ho hT hz hk => ?_
    refine ⟨_, rfl, wpAny_letOwnedTupleGo_items (s := { s with heap := h' }) ho fun h'' he' sb => ?_⟩
    have hT2 : h''.get? s.heap.objs.size = some { cls := .type "tuple", data := .seq #[es[i].key, es[i].val] } := (sb.2 _ (Nat.ne_of_gt hlt)).trans hT
    have new : ObjOk X.prog X.w (upd H s.heap.objs.size (.tup [kv, v])) h'' s.heap.objs.size (.tup [kv, v]) :=
      ⟨by show 2 ≤ sizeLine; decide, [es[i].key, es[i].val], .cons rk (.cons rv .nil), ⟨_, hT2, rfl, _, rfl⟩⟩
    have I1 : Inv X pins σ (upd H s.heap.objs.size (.tup [kv, v])) { s with heap := h'' } :=
      I.turnedNew (t' := s.toks) (ch := [it]) (fun b ob hb e => (sb.2 b (by simpa using hb)).trans (hk b ob (by simpa using hb) e)) hf (Nat.le_refl _) new
    refine ⟨.ref s.heap.objs.size, _, I1, rfl, ⟨_, kv, v, rfl, I.hok.fresh (Nat.le_refl _), rfl, al⟩, ⟨es[i].key, es[i].val, he'⟩, fun b hb => ?_⟩
    have e : b = it := by simpa using hb
    rw [e, upd_ne (Nat.ne_of_lt hlt)]
    exact (hf it (by simp)).1
  done := by
    intro X hP hw hK hc i pins s σ H E I hf st hg
    subst hP hw hK
    obtain ⟨⟨ks, hr, hl⟩, hi⟩ := hg
    obtain ⟨f0, f1, f2, f3, f4, f5⟩ := hf it (by simp)
    obtain ⟨es, hm, hp, hs, hz⟩ := raw_heap I hr
    obtain rfl : n = es.size := by omega
    obtain ⟨ok, ov, he⟩ := st
    exact wpAny_pyNext_items_end_raw (I.ok.hd hc) he hm hi fun h' eb => ⟨rfl, I.turned (t' := s.toks) (fun b ob hb e => eb b ob hb e) f0 f1 f3 f4 f5⟩
  self := fun A i s Q E st h => let ⟨_, _, e⟩ := st; PySem.W.kcp_self e h
def iKeyR (K : PySem.W.Frag) (td : TE) : TI := fun σ H R => td σ H fun x H1 => ∃ a ks, x = .ref a ∧ RawD K H1 a ks ∧ R (ItK K a ks.length) H1
def iItemR (K : PySem.W.Frag) (td : TE) : TI := fun σ H R => td σ H fun x H1 => ∃ a ks, x = .ref a ∧ RawD K H1 a ks ∧ R (ItI K a ks.length) H1
section
variable {X : Cx} {tg e : Expr} {td : TE} {apos cpos : Pos}
theorem pi_keyR (he : PE X e td) : PI X tg e (iKeyR X.K td) := by
  refine ⟨fun pins s σ H R I h => ?_⟩
  refine thn (he.run pins s σ H _ I h) fun u s1 ⟨x, H1, I1, rx, a, ks, ex, hr, q⟩ => ?_
  subst ex
  obtain rfl : u = Value.ref a := rx
  obtain ⟨es, hm, hp, hs, hz⟩ := raw_heap I1 hr
  refine wpAny_pyIter_dict_raw hs hm (pi_one (tk := s1.toks) I1 _ (turn_keyR a _ ks.length) ⟨_, Heap.get?_push_size _ rfl, rfl, ?_⟩ q)
  rw [hz] <;> rfl
theorem pi_itemR {elts : List Expr} {kk : Nat} {tpos : Pos} (he : PE X e td) (hbase : attributeBase e "items" X.env (eval e X.env) = eval e X.env := by rfl) (hline : (apos.endLine == cpos.line) = true := by rfl) :
    PI X (.Tuple elts kk tpos) (.Call (.Attribute e "items" apos) [] [] cpos) (iItemR X.K td) := by
  refine ⟨fun pins s σ H R I h => ?_⟩
  refine wpAny_Call_method (T := "dict") (id := "dict.items") hbase rfl hline F.plainAttrs_dict F.slot_dict_items F.type_dict_items (thn (he.run pins s σ H _ I h) fun u s1 ⟨x, H1, I1, rx, d, ks, ex, hr, q⟩ => ?_)
  subst ex
  obtain rfl : u = Value.ref d := rx
  obtain ⟨es, hm, hp, hs, hz⟩ := raw_heap I1 hr
  have hnd : ∀ a, Value.ref d = .ref a → ∃ ob, s1.heap.get? a = some ob ∧ ob.dict = none := fun a e => by
    cases e
    obtain ⟨o, ho, hc, _⟩ := hm
    exact ⟨o, ho, hc.2.1⟩
  refine ⟨hm.typeIs, hnd, ?_⟩
  have I2 : Inv X pins σ H1 { s1 with heap := s1.heap.push { cls := .type "dict_items", data := .fields #[.ref d] } } := I1.kept (t' := s1.toks) fun b ob q => Heap.get?_push_of_some _ q
  have fin : wpAny (model X.prog X.w) X.A (pyIter (.ref s1.heap.objs.size)) (PIE X pins σ (.Tuple elts kk tpos) R) X.xe { s1 with heap := s1.heap.push { cls := .type "dict_items", data := .fields #[.ref d] } } := by
    refine wpAny_pyIter_items_raw (d := d) ⟨_, Heap.get?_push_size _ rfl, rfl, rfl⟩ (hm.at fun o e => Heap.get?_push_of_some _ e) (pi_one (tk := s1.toks) I2 _ (turn_itemR d _ ks.length) ⟨.none, .none, ?_⟩ q)
    rw [← hz]
    exact Heap.get?_push_size _ rfl
  show wpAny _ _ (callWith cpos (.builtin "dict.items") [.ref d] [] []) _ X.xe s1
  exact method_meetsIn F.slot_dict_items F.entry_dict_items rfl (PySem.evalArgs_none ⟨rfl, hm.typeIs, F.args_dict_items_1 _, _, meets_dict_items_raw d hs, ⟨_, _, hm⟩, fin⟩)
end
/-! ### in the plain layer -/
def dkOf (x : Out) (m : Mem) : Option Src := match x with
  | .v (.ref n) => (match m[n]? with | some (.dcr kvs) => some ⟨kvs.map (·.1), [(n, .dcr kvs)]⟩ | _ => none)
  | _ => none
def diOf (x : Out) (m : Mem) : Option Src := match x with
  | .v (.ref n) => (match m[n]? with | some (.dcr kvs) => some ⟨kvs.map fun p => .par [p.1, p.2], [(n, .dcr kvs)]⟩ | _ => none)
  | _ => none
@[simp] def iDk (a : E) (ρ : Env) (m : Mem) : Option (Src × Mem) := (a ρ m).bind fun x => (dkOf x.1 x.2).bind fun s => some (s, x.2)
@[simp] def iDi (a : E) (ρ : Env) (m : Mem) : Option (Src × Mem) := (a ρ m).bind fun x => (diOf x.1 x.2).bind fun s => some (s, x.2)
section
variable {K : PySem.W.Frag} {ι : List Addr} {H : Hp}
theorem dcr_later {ι2 : List Addr} {H2 : Hp} {m2 : Mem} {n : Nat} {a : Addr} {kvs : List (D × D)} (e : ι[n]? = some a) (l : Le ι H ι2 H2) (rm : RM K ι2 H2 m2) (hc : chk [(n, .dcr kvs)] m2) : ∃ ks, RawD K H2 a ks ∧ DR K ι2 H2 kvs ks := by
  obtain ⟨a', e1, ks, hr, dr⟩ := rm.ob n (.dcr kvs) (hc (n, .dcr kvs) (by simp))
  rw [l.ix e] at e1; cases e1
  exact ⟨ks, hr, dr⟩
theorem walks_dk {n : Nat} {a : Addr} {kvs : List (D × D)} (e : ι[n]? = some a) : Walks K (ItK K a kvs.length) ⟨kvs.map (·.1), [(n, .dcr kvs)]⟩ ι H := by
  intro ι2 H2 m2 i l rm hc
  obtain ⟨ks, hr, dr⟩ := dcr_later e l rm hc
  have hl : ks.length = kvs.length := (Paired.length dr).symm
  refine ⟨fun hi => ⟨⟨ks, hr, hl⟩, by simpa using hi⟩, fun d hd => ?_⟩
  rw [List.getElem?_map] at hd
  obtain ⟨p, hp, rfl⟩ := Option.map_eq_some_iff.mp hd
  obtain ⟨q, hq, r1, r2⟩ := pgets dr hp
  refine ⟨⟨⟨ks, hr, hl⟩, (List.getElem?_eq_some_iff.mp hp).1⟩, fun x H3 hy => ?_⟩
  obtain ⟨rfl, al⟩ := hy
  obtain ⟨k, v, e1, e2⟩ := al ks hr
  rw [hq] at e1; cases e1
  exact ⟨Le.refl _ _, rm, by rw [r1]; exact e2.rv⟩
theorem walks_di {n : Nat} {a : Addr} {kvs : List (D × D)} (e : ι[n]? = some a) : Walks K (ItI K a kvs.length) ⟨kvs.map fun p => .par [p.1, p.2], [(n, .dcr kvs)]⟩ ι H := by
  intro ι2 H2 m2 i l rm hc
  obtain ⟨ks, hr, dr⟩ := dcr_later e l rm hc
  have hl : ks.length = kvs.length := (Paired.length dr).symm
  refine ⟨fun hi => ⟨⟨ks, hr, hl⟩, by simpa using hi⟩, fun d hd => ?_⟩
  rw [List.getElem?_map] at hd
  obtain ⟨p, hp, rfl⟩ := Option.map_eq_some_iff.mp hd
  obtain ⟨q, hq, r1, r2⟩ := pgets dr hp
  refine ⟨⟨⟨ks, hr, hl⟩, (List.getElem?_eq_some_iff.mp hp).1⟩, fun x H3 hy => ?_⟩
  obtain ⟨pa, kv, v, rfl, hpn, rfl, al⟩ := hy
  obtain ⟨k, e1, e2⟩ := al ks hr
  rw [hq] at e1; cases e1
  exact ⟨Le.newAt hpn, rm.newAt hpn, new_par hpn (.cons (by rw [r1]; exact e2.rv) (.cons r2 .nil))⟩
end
theorem si_dk {X : Cx} {tg e : Expr} {fa : E} (h : SE X e fa) : SI X tg e (iDk fa) := pi_imp (pi_keyR h) fun σ H R ⟨ι, ρ, m, s, m', rs, rm, hf, k⟩ => by
  obtain ⟨x, h1, hf⟩ := bind_some hf
  obtain ⟨s', h2, hf⟩ := bind_some hf
  cases hf
  unfold dkOf at h2
  split at h2
  · rename_i n e1
    split at h2
    · rename_i kvs hm; cases h2
      refine ⟨ι, ρ, m, x.1, x.2, rs, rm, h1, fun v ι1 H1 l1 rm1 ro1 bd1 => ?_⟩
      rw [e1] at ro1
      cases ro1 with
      | ref e2 =>
        obtain ⟨a', e3, ks, hr, dr⟩ := rm1.ob _ _ hm
        rw [e2] at e3; cases e3
        have hl : ks.length = kvs.length := (Paired.length dr).symm
        refine ⟨_, ks, rfl, hr, fun bd => ?_⟩
        rw [hl]
        refine k _ ι1 H1 l1 rm1 (walks_dk e2) bd ?_
        obtain ⟨_, _, _, _, hz, _⟩ := hr
        show (kvs.map (·.1)).length ≤ _
        rw [List.length_map, ← hl]; exact hz
    · cases h2
  · cases h2
theorem si_di {X : Cx} {elts : List Expr} {kk : Nat} {tpos apos cpos : Pos} {e : Expr} {fa : E} (h : SE X e fa) (hbase : attributeBase e "items" X.env (eval e X.env) = eval e X.env := by rfl) (hline : (apos.endLine == cpos.line) = true := by rfl) :
    SI X (.Tuple elts kk tpos) (.Call (.Attribute e "items" apos) [] [] cpos) (iDi fa) := pi_imp (pi_itemR h hbase hline) fun σ H R ⟨ι, ρ, m, s, m', rs, rm, hf, k⟩ => by
  obtain ⟨x, h1, hf⟩ := bind_some hf
  obtain ⟨s', h2, hf⟩ := bind_some hf
  cases hf
  unfold diOf at h2
  split at h2
  · rename_i n e1
    split at h2
    · rename_i kvs hm; cases h2
      refine ⟨ι, ρ, m, x.1, x.2, rs, rm, h1, fun v ι1 H1 l1 rm1 ro1 bd1 => ?_⟩
      rw [e1] at ro1
      cases ro1 with
      | ref e2 =>
        obtain ⟨a', e3, ks, hr, dr⟩ := rm1.ob _ _ hm
        rw [e2] at e3; cases e3
        have hl : ks.length = kvs.length := (Paired.length dr).symm
        refine ⟨_, ks, rfl, hr, fun bd => ?_⟩
        rw [hl]
        refine k _ ι1 H1 l1 rm1 (walks_di e2) bd ?_
        obtain ⟨_, _, _, _, hz, _⟩ := hr
        show (kvs.map fun p => D.par [p.1, p.2]).length ≤ _
        rw [List.length_map, ← hl]; exact hz
    · cases h2
  · cases h2
theorem dk_ref {n : Nat} {kvs : List (D × D)} {M : Mem} (h : M[n]? = some (.dcr kvs)) : dkOf (.v (.ref n)) M = some ⟨kvs.map (·.1), [(n, .dcr kvs)]⟩ := by simp [dkOf, h]
theorem di_ref {n : Nat} {kvs : List (D × D)} {M : Mem} (h : M[n]? = some (.dcr kvs)) : diOf (.v (.ref n)) M = some ⟨kvs.map fun p => .par [p.1, p.2], [(n, .dcr kvs)]⟩ := by simp [diOf, h]
end Q
/-! zip of a list and a tuple (turned from the library's rules for two tuples) -/
namespace Q
open PySem PySem.Spec PyProof.Rows L2
section
variable {prog : Program} {w : World} {A : Around} {E : Value → Shared → Prop} {s : Shared}
theorem zipM_next_item {z TI TO i1 i2 l1 l2 : Addr} {k1 k2 : Nat} {xs ys : Array Value} {x y a b : Value} {Q : Value → Shared → Prop} (D : ZipApart z TI TO i1 i2 l1 l2)
    (hz : IsZip s.heap z TI TO .none) (hTI : IsPair s.heap TI (.ref i1) (.ref i2)) (hTO : IsPair s.heap TO a b)
    (h1 : s.heap.IsListIter i1 l1 k1) (h2 : s.heap.IsTupleIter i2 l2 k2) (hl1 : s.heap.IsList l1 xs) (hl2 : s.heap.IsTuple l2 ys) (hx : xs[k1]? = some x) (hy : ys[k2]? = some y)
    (hQ : ∀ h', IsZip h' z TI TO (rawInt s.heap.objs.size) → IsPair h' TO x y → h'.IsListIter i1 l1 (k1 + 1) → h'.IsTupleIter i2 l2 (k2 + 1) → IsPair h' s.heap.objs.size x y → h'.objs.size = s.heap.objs.size + 1 →
      (∀ c o, c ≠ z → c ≠ TO → c ≠ i1 → c ≠ i2 → s.heap.get? c = some o → h'.get? c = some o) → Q (.ref s.heap.objs.size) { s with heap := h' }) :
    wpAny (model prog w) A (Builtin.«zip.__next__» ⟨[.ref z], []⟩) (fun fin s' => ∃ v, fin = .done (.ret v) ∧ Q v s') E s := by
  show wpAny _ _ (field (.ref z) 2 >>= _) _ _ _
  refine wpAny_bind (wpAny_field hz rfl (x := .bool false) rfl ?_)
  show wpAny _ _ (field (.ref z) 3 >>= _) _ _ _
  refine wpAny_bind (wpAny_field hz rfl (x := .ref TI) rfl ?_)
  refine wpAny_bind (wpAny_seqItems hTI rfl ?_)
  show wpAny _ _ (Builtin.SmallTypes.ownedTupleIsFree (.ref z) >>= _) _ _ _
  refine wpAny_bind ?_
  unfold Builtin.SmallTypes.ownedTupleIsFree
  refine wpAny_bind (wpAny_field hz rfl (x := .none) rfl (wpAny_pure ?_))
  simp only [if_true]
  refine wpAny_bind (wpAny_rule ?_)
  refine wpAny_bind (wpAny_field hz rfl (x := .ref TO) rfl ?_)
  refine wpAny_bind (wpAny_setField_rec hz (by simp) fun h₁ hz₁ hs₁ => ?_)
  replace hz₁ : IsZip h₁ z TI TO .ellipsis := hz₁
  refine wpAny_bind ?_
  simp only [List.zipIdx_cons, List.zipIdx_nil, List.forIn_cons, List.forIn_nil]

  refine wpAny_bind (wpAny_bind (wpAny_onRaise ?_))
  show wpAny _ _ (Builtin.SmallTypes.nextOf (.ref i1) >>= _) _ _ _
  refine wpAny_bind (wpAny_nextOf_list_item (h1.extBut hs₁.extBut D.i1z) (hl1.extBut hs₁.extBut D.l1z) hx fun h₂ h1₂ hs₂ => wpAny_pure ?_)
  have hTO₂ : IsPair h₂ TO a b := hs₂.extBut _ _ D.TOi1 (hs₁.extBut _ _ D.TOz hTO)
  refine wpAny_bind (wpAny_seqItems hTO₂ rfl ?_)
  refine wpAny_bind (wpAny_updateSeq_pair hTO₂ fun h₃ hTO₃ hs₃ => ?_)
  replace hTO₃ : IsPair h₃ TO x b := hTO₃
  refine wpAny_bind (wpAny_letGo (wpAny_pure ?_))

  refine wpAny_bind (wpAny_bind (wpAny_onRaise ?_))
  show wpAny _ _ (Builtin.SmallTypes.nextOf (.ref i2) >>= _) _ _ _
  refine wpAny_bind (RZ.nextOf_tuple_item (((h2.extBut hs₁.extBut D.i2z).extBut hs₂.extBut D.i12.symm).extBut hs₃.extBut D.TOi2.symm)
    (((hl2.extBut hs₁.extBut D.l2z).extBut hs₂.extBut D.l2i1).extBut hs₃.extBut D.l2TO) hy fun h₄ h2₄ hs₄ => wpAny_pure ?_)
  have hTO₄ : IsPair h₄ TO x b := hs₄.extBut _ _ D.TOi2 hTO₃
  refine wpAny_bind (wpAny_seqItems hTO₄ rfl ?_)
  refine wpAny_bind (wpAny_updateSeq_pair hTO₄ fun h₅ hTO₅ hs₅ => ?_)
  replace hTO₅ : IsPair h₅ TO x y := hTO₅
  refine wpAny_bind (wpAny_letGo (wpAny_pure (wpAny_pure ?_)))

  refine wpAny_bind (wpAny_seqItems hTO₅ rfl ?_)
  refine wpAny_bind (wpAny_newTuple ?_)
  have hsz : h₅.objs.size = s.heap.objs.size := by rw [hs₅.1, hs₄.1, hs₃.1, hs₂.1, hs₁.1]
  have hz₅ : IsZip h₅ z TI TO .ellipsis := hs₅.extBut _ _ D.TOz.symm (hs₄.extBut _ _ D.i2z.symm (hs₃.extBut _ _ D.TOz.symm (hs₂.extBut _ _ D.i1z.symm hz₁)))
  have hk₅ : ∀ c o, c ≠ z → c ≠ TO → c ≠ i1 → c ≠ i2 → s.heap.get? c = some o → h₅.get? c = some o := fun c o c1 c2 c3 c4 e =>
    hs₅.extBut _ _ c2 (hs₄.extBut _ _ c4 (hs₃.extBut _ _ c2 (hs₂.extBut _ _ c3 (hs₁.extBut _ _ c1 e))))
  have h1₅ : h₅.IsListIter i1 l1 (k1 + 1) := ((h1₂.extBut hs₃.extBut D.TOi1.symm).extBut hs₄.extBut D.i12).extBut hs₅.extBut D.TOi1.symm
  have h2₅ : h₅.IsTupleIter i2 l2 (k2 + 1) := h2₄.extBut hs₅.extBut D.TOi2.symm
  have hzlt : z < h₅.objs.size := Heap.lt_size hz₅
  have hTOlt : TO < h₅.objs.size := Heap.lt_size hTO₅
  have hi1lt : i1 < h₅.objs.size := by obtain ⟨_, e, _⟩ := h1₅; exact Heap.lt_size e
  have hi2lt : i2 < h₅.objs.size := by obtain ⟨_, e, _⟩ := h2₅; exact Heap.lt_size e
  show wpAny _ _ (Builtin.SmallTypes.ownedTupleHandOut (.ref z) (.ref h₅.objs.size) >>= _) _ _ _
  refine wpAny_bind ?_
  unfold Builtin.SmallTypes.ownedTupleHandOut
  have hz₆ : IsZip (h₅.push { cls := .type "tuple", data := .seq #[x, y] }) z TI TO .ellipsis := Heap.get?_push_of_some _ hz₅
  refine wpAny_bind (wpAny_setField_rec hz₆ (by simp) fun h₇ hz₇ hs₇ => ?_)
  replace hz₇ : IsZip h₇ z TI TO (rawInt h₅.objs.size) := hz₇
  refine wpAny_setField_rec hz₇ (by simp) fun h₈ hz₈ hs₈ => ?_
  replace hz₈ : IsZip h₈ z TI TO (rawInt h₅.objs.size) := hz₈
  have up : ∀ c o, c ≠ z → h₅.get? c = some o → h₈.get? c = some o := fun c o c1 e => hs₈.extBut _ _ c1 (hs₇.extBut _ _ c1 (Heap.get?_push_of_some _ e))
  have hT₈ : IsPair h₈ h₅.objs.size x y := hs₈.extBut _ _ (Nat.ne_of_gt hzlt) (hs₇.extBut _ _ (Nat.ne_of_gt hzlt) (Heap.get?_push_size _ rfl))
  have hz8 : h₈.objs.size = h₅.objs.size + 1 := by rw [hs₈.1, hs₇.1, Heap.size_push]
  rw [hsz] at hz₈ hT₈ hz8
  refine wpAny_pure ⟨_, rfl, ?_⟩
  show Q (.ref h₅.objs.size) _
  rw [hsz]
  exact hQ h₈ hz₈ (up _ _ D.TOz hTO₅) (h1₅.at fun o e => up _ o D.i1z e) (h2₅.at fun o e => up _ o D.i2z e) hT₈ hz8 fun c o c1 c2 c3 c4 e => up c o c1 (hk₅ c o c1 c2 c3 c4 e)

theorem zipM_next_end {z TI TO i1 i2 l1 l2 : Addr} {k1 k2 : Nat} {xs ys : Array Value} {a b : Value} {Q : Fin → Shared → Prop} (hh : A.handled = none) (D : ZipApart z TI TO i1 i2 l1 l2)
    (hz : IsZip s.heap z TI TO .none) (hTI : IsPair s.heap TI (.ref i1) (.ref i2)) (hTO : IsPair s.heap TO a b)
    (h1 : s.heap.IsListIter i1 l1 k1) (h2 : s.heap.IsTupleIter i2 l2 k2) (hl1 : s.heap.IsList l1 xs) (hl2 : s.heap.IsTuple l2 ys) (hend : xs[k1]? = none ∨ ys[k2]? = none)
    (hE : ∀ h' e, (∀ c o, c ≠ z → c ≠ TO → c ≠ i1 → c ≠ i2 → s.heap.get? c = some o → h'.get? c = some o) → (∃ o, h'.get? e = some o ∧ o.cls = .type "StopIteration") → E (.ref e) { s with heap := h' }) :
    wpAny (model prog w) A (Builtin.«zip.__next__» ⟨[.ref z], []⟩) Q E s := by
  show wpAny _ _ (field (.ref z) 2 >>= _) _ _ _
  refine wpAny_bind (wpAny_field hz rfl (x := .bool false) rfl ?_)
  show wpAny _ _ (field (.ref z) 3 >>= _) _ _ _
  refine wpAny_bind (wpAny_field hz rfl (x := .ref TI) rfl ?_)
  refine wpAny_bind (wpAny_seqItems hTI rfl ?_)
  show wpAny _ _ (Builtin.SmallTypes.ownedTupleIsFree (.ref z) >>= _) _ _ _
  refine wpAny_bind ?_
  unfold Builtin.SmallTypes.ownedTupleIsFree
  refine wpAny_bind (wpAny_field hz rfl (x := .none) rfl (wpAny_pure ?_))
  simp only [if_true]
  refine wpAny_bind (wpAny_rule ?_)
  refine wpAny_bind (wpAny_field hz rfl (x := .ref TO) rfl ?_)
  refine wpAny_bind (wpAny_setField_rec hz (by simp) fun h₁ hz₁ hs₁ => ?_)
  replace hz₁ : IsZip h₁ z TI TO .ellipsis := hz₁
  refine wpAny_bind ?_
  simp only [List.zipIdx_cons, List.zipIdx_nil, List.forIn_cons, List.forIn_nil]
  refine wpAny_bind (wpAny_bind (wpAny_onRaise ?_))
  show wpAny _ _ (Builtin.SmallTypes.nextOf (.ref i1) >>= _) _ _ _
  cases hx : xs[k1]? with
  | none =>
    refine wpAny_bind (wpAny_nextOf_list_end hh (h1.extBut hs₁.extBut D.i1z) (hl1.extBut hs₁.extBut D.l1z) hx fun h₂ e hs₂ he => ?_)
    obtain ⟨oe, hoe, hce⟩ := he
    have hz₂ : IsZip h₂ z TI TO .ellipsis := hs₂ _ _ D.i1z.symm hz₁
    have hez : e ≠ z := fun x => by subst x; rw [hz₂] at hoe; cases hoe; simp at hce
    refine wpAny_setField_rec hz₂ (by simp) fun h₃ _ hs₃ => hE h₃ e (fun c o c1 _ c3 _ x => hs₃.extBut _ _ c1 (hs₂ _ _ c3 (hs₁.extBut _ _ c1 x))) ⟨oe, hs₃.extBut _ _ hez hoe, hce⟩
  | some x =>
    have hy : ys[k2]? = none := by rcases hend with h | h; rw [hx] at h; cases h; exact h
    refine wpAny_bind (wpAny_nextOf_list_item (h1.extBut hs₁.extBut D.i1z) (hl1.extBut hs₁.extBut D.l1z) hx fun h₂ h1₂ hs₂ => wpAny_pure ?_)
    have hTO₂ : IsPair h₂ TO a b := hs₂.extBut _ _ D.TOi1 (hs₁.extBut _ _ D.TOz hTO)
    refine wpAny_bind (wpAny_seqItems hTO₂ rfl ?_)
    refine wpAny_bind (wpAny_updateSeq_pair hTO₂ fun h₃ hTO₃ hs₃ => ?_)
    refine wpAny_bind (wpAny_letGo (wpAny_pure ?_))
    refine wpAny_bind (wpAny_bind (wpAny_onRaise ?_))
    show wpAny _ _ (Builtin.SmallTypes.nextOf (.ref i2) >>= _) _ _ _
    refine wpAny_bind (RZ.nextOf_tuple_end hh (((h2.extBut hs₁.extBut D.i2z).extBut hs₂.extBut D.i12.symm).extBut hs₃.extBut D.TOi2.symm)
      (((hl2.extBut hs₁.extBut D.l2z).extBut hs₂.extBut D.l2i1).extBut hs₃.extBut D.l2TO) hy fun h₄ e hs₄ he => ?_)
    obtain ⟨oe, hoe, hce⟩ := he
    have hz₄ : IsZip h₄ z TI TO .ellipsis := hs₄ _ _ D.i2z.symm (hs₃.extBut _ _ D.TOz.symm (hs₂.extBut _ _ D.i1z.symm hz₁))
    have hez : e ≠ z := fun x => by subst x; rw [hz₄] at hoe; cases hoe; simp at hce
    refine wpAny_setField_rec hz₄ (by simp) fun h₅ _ hs₅ => hE h₅ e (fun c o c1 c2 c3 c4 x => hs₅.extBut _ _ c1 (hs₄ _ _ c4 (hs₃.extBut _ _ c2 (hs₂.extBut _ _ c3 (hs₁.extBut _ _ c1 x))))) ⟨oe, hs₅.extBut _ _ hez hoe, hce⟩

theorem pyNext_zipM_item {z TI TO i1 i2 l1 l2 : Addr} {k1 k2 : Nat} {xs ys : Array Value} {x y a b : Value} {Q : Option Value → Shared → Prop} (D : ZipApart z TI TO i1 i2 l1 l2)
    (hz : IsZip s.heap z TI TO .none) (hTI : IsPair s.heap TI (.ref i1) (.ref i2)) (hTO : IsPair s.heap TO a b)
    (h1 : s.heap.IsListIter i1 l1 k1) (h2 : s.heap.IsTupleIter i2 l2 k2) (hl1 : s.heap.IsList l1 xs) (hl2 : s.heap.IsTuple l2 ys) (hx : xs[k1]? = some x) (hy : ys[k2]? = some y)
    (hQ : ∀ h', IsZip h' z TI TO (rawInt s.heap.objs.size) → IsPair h' TO x y → h'.IsListIter i1 l1 (k1 + 1) → h'.IsTupleIter i2 l2 (k2 + 1) → IsPair h' s.heap.objs.size x y → h'.objs.size = s.heap.objs.size + 1 →
      (∀ c o, c ≠ z → c ≠ TO → c ≠ i1 → c ≠ i2 → s.heap.get? c = some o → h'.get? c = some o) → Q (some (.ref s.heap.objs.size)) { s with heap := h' }) :
    wpAny (model prog w) A (pyNext (.ref z)) Q E s := by
  have hT : s.TypeIs (.ref z) "zip" := ⟨_, hz, rfl⟩
  unfold pyNext
  exact wpAny_bind (wpAny_attempt (wpAny_callSpecial?_slot (name := Str.ofString "__next__") hT F.slot_zip_next
    (wpAny_call_entry F.slot_zip_next hT F.entry_zip_next
      (zipM_next_item D hz hTI hTO h1 h2 hl1 hl2 hx hy fun h' a1 a2 a3 a4 a5 a6 a7 => wpAny_pure (hQ h' a1 a2 a3 a4 a5 a6 a7)) (F.args_zip_next_1 _))))

theorem pyNext_zipM_end {z TI TO i1 i2 l1 l2 : Addr} {k1 k2 : Nat} {xs ys : Array Value} {a b : Value} {Q : Option Value → Shared → Prop} (hh : A.handled = none) (D : ZipApart z TI TO i1 i2 l1 l2)
    (hz : IsZip s.heap z TI TO .none) (hTI : IsPair s.heap TI (.ref i1) (.ref i2)) (hTO : IsPair s.heap TO a b)
    (h1 : s.heap.IsListIter i1 l1 k1) (h2 : s.heap.IsTupleIter i2 l2 k2) (hl1 : s.heap.IsList l1 xs) (hl2 : s.heap.IsTuple l2 ys) (hend : xs[k1]? = none ∨ ys[k2]? = none)
    (hQ : ∀ h', (∀ c o, c ≠ z → c ≠ TO → c ≠ i1 → c ≠ i2 → s.heap.get? c = some o → h'.get? c = some o) → Q none { s with heap := h' }) : wpAny (model prog w) A (pyNext (.ref z)) Q E s := by
  have hT : s.TypeIs (.ref z) "zip" := ⟨_, hz, rfl⟩
  unfold pyNext
  refine wpAny_bind (wpAny_attempt (wpAny_callSpecial?_slot (name := Str.ofString "__next__") hT F.slot_zip_next
    (wpAny_call_entry F.slot_zip_next hT F.entry_zip_next (zipM_next_end hh D hz hTI hTO h1 h2 hl1 hl2 hend fun h' e hk he => ?_) (F.args_zip_next_1 _))))
  obtain ⟨o, ho, hc⟩ := he
  refine wpAny_bind (wpAny_isInstance (T := "StopIteration") (b := true) ⟨o, ho, hc⟩ isSubtype_stop ?_)
  exact wpAny_pure (hQ _ hk)
end

abbrev zipMH1 (h : Heap) (l1 : Addr) : Heap := h.push { cls := .type "list_iterator", data := .fields #[.ref l1, .int 0 0] }
abbrev zipMH2 (h : Heap) (l1 l2 : Addr) : Heap := (zipMH1 h l1).push { cls := .type "tuple_iterator", data := .fields #[.ref l2, .int 0 0] }
abbrev zipMH3 (h : Heap) (l1 l2 : Addr) : Heap := (zipMH2 h l1 l2).push { cls := .type "tuple", data := .seq #[.ref h.objs.size, .ref (zipMH1 h l1).objs.size] }
abbrev zipMH4 (h : Heap) (l1 l2 : Addr) : Heap := (zipMH3 h l1 l2).push { cls := .type "tuple", data := .seq #[.none, .none] }
abbrev zipMH5 (h : Heap) (l1 l2 : Addr) : Heap := (zipMH4 h l1 l2).push { cls := .type "zip", data := .fields #[.none, .bool false, .bool false, .ref (zipMH2 h l1 l2).objs.size, .ref (zipMH3 h l1 l2).objs.size] }

theorem meets_zipM_new (l1 l2 : Addr) (xs ys : Array Value) :
    Meets (Builtin.«zip.__new__» ⟨[.type "zip", .ref l1, .ref l2], []⟩) (fun _ R s => s.heap.IsList l1 xs ∧ s.heap.IsTuple l2 ys ∧
      R (.ok (.ret (.ref (zipMH4 s.heap l1 l2).objs.size))) { s with heap := zipMH5 s.heap l1 l2 }) :=
  .of_wp fun prog w A R s h => by
    obtain ⟨hp, g, d, tk, os⟩ := s; obtain ⟨hl1, hl2, h⟩ := h
    have hsub := sub_zip
    have hL1 : Heap.IsList (Shared.heap ⟨hp, g, d, tk, os⟩) l1 xs := hl1
    have hL2 : Heap.IsTuple (Shared.heap ⟨hp.push { cls := .type "list_iterator", data := .fields #[.ref l1, .int 0 0] }, g, d, tk, os⟩) l2 ys := Heap.IsTuple.push hl2 _
    wp_walk using wpAny_pyIter_list hL1, wpAny_pyIter_tuple hL2
    exact ⟨_, rfl, h⟩

section
variable {prog : Program} {w : World} {A : Around} {E : Value → Shared → Prop} {s : Shared}

theorem call_zipM {l1 l2 : Addr} {xs ys : Array Value} {Q : Value → Shared → Prop} (hl1 : s.heap.IsList l1 xs) (hl2 : s.heap.IsTuple l2 ys)
    (h : ∀ h', IsZip h' (s.heap.objs.size + 4) (s.heap.objs.size + 2) (s.heap.objs.size + 3) .none → IsPair h' (s.heap.objs.size + 2) (.ref s.heap.objs.size) (.ref (s.heap.objs.size + 1)) →
      IsPair h' (s.heap.objs.size + 3) .none .none → h'.IsListIter s.heap.objs.size l1 0 → h'.IsTupleIter (s.heap.objs.size + 1) l2 0 → h'.objs.size = s.heap.objs.size + 5 →
      (∀ c o, s.heap.get? c = some o → h'.get? c = some o) → Q (.ref (s.heap.objs.size + 4)) { s with heap := h' }) :
    wpAny (model prog w) A (call (.type "zip") [.ref l1, .ref l2]) Q E s := by
  refine callType_new F.called_zip (by decide) (F.typeCall_zip_2 _ _) (F.newCall_zip_2 _ _) (fun obj => F.args_object_init_3 obj _ _) F.entry_zip_new
    (meets_zipM_new l1 l2 xs ys) ⟨hl1, hl2, ?_⟩
  have z1 : (zipMH1 s.heap l1).objs.size = s.heap.objs.size + 1 := Heap.size_push ..
  have z2 : (zipMH2 s.heap l1 l2).objs.size = s.heap.objs.size + 2 := by rw [Heap.size_push, z1]
  have z3 : (zipMH3 s.heap l1 l2).objs.size = s.heap.objs.size + 3 := by rw [Heap.size_push, z2]
  have z4 : (zipMH4 s.heap l1 l2).objs.size = s.heap.objs.size + 4 := by rw [Heap.size_push, z3]
  have z5 : (zipMH5 s.heap l1 l2).objs.size = s.heap.objs.size + 5 := by rw [Heap.size_push, z4]
  have g5 : (zipMH5 s.heap l1 l2).get? (zipMH4 s.heap l1 l2).objs.size = some _ := Heap.get?_push_size _ rfl
  have g4 : (zipMH5 s.heap l1 l2).get? (zipMH3 s.heap l1 l2).objs.size = some _ := Heap.get?_push_of_some _ (Heap.get?_push_size _ rfl)
  have g3 : (zipMH5 s.heap l1 l2).get? (zipMH2 s.heap l1 l2).objs.size = some _ := Heap.get?_push_of_some _ (Heap.get?_push_of_some _ (Heap.get?_push_size _ rfl))
  have g2 : (zipMH5 s.heap l1 l2).get? (zipMH1 s.heap l1).objs.size = some _ := Heap.get?_push_of_some _ (Heap.get?_push_of_some _ (Heap.get?_push_of_some _ (Heap.get?_push_size _ rfl)))
  have g1 : (zipMH5 s.heap l1 l2).get? s.heap.objs.size = some _ := Heap.get?_push_of_some _ (Heap.get?_push_of_some _ (Heap.get?_push_of_some _ (Heap.get?_push_of_some _ (Heap.get?_push_size _ rfl))))
  show _ ∧ _
  rw [z2, z3, z4] at g5
  rw [z1, z2] at g3
  rw [z3] at g4
  rw [z1] at g2
  rw [z4]
  exact ⟨⟨_, g5, rfl⟩, h _ g5 g3 g4 ⟨_, g1, rfl, rfl⟩ ⟨_, g2, rfl, rfl⟩ z5 fun c o x =>
    Heap.get?_push_of_some _ (Heap.get?_push_of_some _ (Heap.get?_push_of_some _ (Heap.get?_push_of_some _ (Heap.get?_push_of_some _ x))))⟩
end
/-- the tuples at a and b as they stand at each turn, the items in new pairs -/
def ItzM (K : PySem.W.Frag) (a b : Addr) : It :=
  ⟨fun i H => ∃ (xs ys : List V) (x y : V), SqL K H a xs ∧ SqT K H b ys ∧ xs[i]? = some x ∧ ys[i]? = some y,
    fun i H v H' => ∃ T x y, v = .ref T ∧ H T = none ∧ H' = upd H T (.tup [x, y]) ∧ (∀ xs, SqL K H a xs → xs[i]? = some x) ∧ ∀ ys, SqT K H b ys → ys[i]? = some y,
    fun i H => ∃ xs ys : List V, SqL K H a xs ∧ SqT K H b ys ∧ (xs.length ≤ i ∨ ys.length ≤ i)⟩
theorem turn_zipM {P : Program} {w : World} {K : PySem.W.Frag} {elts : List Expr} {kk : Nat} {tpos : Pos} {a b z TI TO i1 i2 : Addr} (D : ZipApart z TI TO i1 i2 a b) :
    Turn P w K (.Tuple elts kk tpos) (ItzM K a b) [z, TI, TO, i1, i2] z (fun i h => IsZip h z TI TO .none ∧ IsPair h TI (.ref i1) (.ref i2) ∧ (∃ x y, IsPair h TO x y) ∧ h.IsListIter i1 a i ∧ h.IsTupleIter i2 b i) where
  mem := by simp
  obj := fun i h st c hc => by
    obtain ⟨hz, hTI, ⟨x, y, hTO⟩, ⟨o1, e1, _, d1⟩, ⟨o2, e2, _, d2⟩⟩ := st
    have e' : c = z ∨ c = TI ∨ c = TO ∨ c = i1 ∨ c = i2 := by simpa using hc
    rcases e' with q | q | q | q | q
    · rw [q]; exact ⟨_, hz, fun v q => nomatch q⟩
    · rw [q]; exact ⟨_, hTI, fun v q => nomatch q⟩
    · rw [q]; exact ⟨_, hTO, fun v q => nomatch q⟩
    · rw [q]; exact ⟨o1, e1, fun v q => by rw [d1] at q; cases q⟩
    · rw [q]; exact ⟨o2, e2, fun v q => by rw [d2] at q; cases q⟩
  keep := fun i h h' st k => by
    obtain ⟨hz, hTI, ⟨x, y, hTO⟩, h1, h2⟩ := st
    exact ⟨k z (by simp) _ hz, k TI (by simp) _ hTI, ⟨x, y, k TO (by simp) _ hTO⟩, h1.at fun o q => k i1 (by simp) o q, h2.at fun o q => k i2 (by simp) o q⟩
  item := by
    intro X hP hw hK hc i pins s σ H E I hf st hg
    subst hP hw hK
    obtain ⟨hz, hTI, ⟨x0, y0, hTO⟩, h1, h2⟩ := st
    obtain ⟨xs, ys, x, y, hqx, hqy, hx, hy⟩ := hg
    obtain ⟨its, rv, p, _⟩ := I.list hqx
    obtain ⟨its2, rv2, p2, _⟩ := I.tuple hqy
    obtain ⟨u, hu, ru⟩ := rv.get hx
    obtain ⟨u2, hu2, ru2⟩ := rv2.get hy
    have hzl : z < s.heap.objs.size := Heap.lt_size hz
    refine pyNext_zipM_item D hz hTI hTO h1 h2 p.isList p2 (x := u) (y := u2) (by simpa using hu) (by simpa using hu2) fun h' z' TO' h1' h2' hT hsz hk => ?_
    refine ⟨_, rfl, wpAny_letOwnedTupleGo_zip (s := { s with heap := h' }) z' fun h'' z'' sb => ?_⟩
    have hT2 : h''.get? s.heap.objs.size = some { cls := .type "tuple", data := .seq #[u, u2] } := (sb.2 _ (Nat.ne_of_gt hzl)).trans hT
    have new : ObjOk X.prog X.w (upd H s.heap.objs.size (.tup [x, y])) h'' s.heap.objs.size (.tup [x, y]) :=
      ⟨by show 2 ≤ sizeLine; decide, [u, u2], .cons ru (.cons ru2 .nil), ⟨_, hT2, rfl, _, rfl⟩⟩
    have I1 : Inv X pins σ (upd H s.heap.objs.size (.tup [x, y])) { s with heap := h'' } :=
      I.turnedNew (t' := s.toks) (ch := [z, TI, TO, i1, i2]) (fun c o hb q => (sb.2 c (fun q' => hb (by simp [q']))).trans (hk c o (fun q' => hb (by simp [q'])) (fun q' => hb (by simp [q'])) (fun q' => hb (by simp [q'])) (fun q' => hb (by simp [q'])) q)) hf (Nat.le_refl _) new
    refine ⟨.ref s.heap.objs.size, _, I1, rfl, ⟨_, x, y, rfl, I.hok.fresh (Nat.le_refl _), rfl, fun l hl => by rw [I.list_inj hl hqx]; exact hx, fun l hl => by rw [I.tuple_inj hl hqy]; exact hy⟩, ⟨z'', ?_, ⟨u, u2, ?_⟩, ?_, ?_⟩, fun c hcm => ?_⟩
    · exact (sb.2 _ D.TIz).trans (hk _ _ D.TIz D.TITO D.TIi1 D.TIi2 hTI)
    · exact (sb.2 _ D.TOz).trans TO'
    · exact h1'.at fun o q => (sb.2 _ D.i1z).trans q
    · exact h2'.at fun o q => (sb.2 _ D.i2z).trans q
    · have hlt : c < s.heap.objs.size := by
        have e' : c = z ∨ c = TI ∨ c = TO ∨ c = i1 ∨ c = i2 := by simpa using hcm
        rcases e' with q | q | q | q | q
        · rw [q]; exact hzl
        · rw [q]; exact Heap.lt_size hTI
        · rw [q]; exact Heap.lt_size hTO
        · rw [q]; obtain ⟨_, e1, _⟩ := h1; exact Heap.lt_size e1
        · rw [q]; obtain ⟨_, e2, _⟩ := h2; exact Heap.lt_size e2
      rw [upd_ne (Nat.ne_of_lt hlt)]
      exact (hf c hcm).1
  done := by
    intro X hP hw hK hc i pins s σ H E I hf st hg
    subst hP hw hK
    obtain ⟨hz, hTI, ⟨x0, y0, hTO⟩, h1, h2⟩ := st
    obtain ⟨xs, ys, hqx, hqy, hend⟩ := hg
    obtain ⟨its, rv, p, _⟩ := I.list hqx
    obtain ⟨its2, rv2, p2, _⟩ := I.tuple hqy
    have l1 := rv.length
    have l2 := rv2.length
    have he : its.toArray[i]? = none ∨ its2.toArray[i]? = none := by
      rcases hend with q | q
      · exact .inl (by simp; omega)
      · exact .inr (by simp; omega)
    exact pyNext_zipM_end (I.ok.hd hc) D hz hTI hTO h1 h2 p.isList p2 he fun h' hk => ⟨rfl, I.turnedL (t' := s.toks) (ch := [z, TI, TO, i1, i2]) (fun c o hb q =>
      hk c o (fun q' => hb (by simp [q'])) (fun q' => hb (by simp [q'])) (fun q' => hb (by simp [q'])) (fun q' => hb (by simp [q'])) q) hf⟩
  self := fun A i s Q E st h => wpAny_pyIter_zip st.1 h


def iZipM (K : PySem.W.Frag) (ta : TA) : TI := fun σ H R => ta σ H fun vs H1 => ∃ a b xs ys, vs = [.ref a, .ref b] ∧ SqL K H1 a xs ∧ SqT K H1 b ys ∧ R (ItzM K a b) H1
theorem pi_zipM {X : Cx} {e e2 : Expr} {ta : TA} {p pos tpos : Pos} {elts : List Expr} {kk : Nat} (hg : Gl X "zip") (hm : X.mg "zip" = none) (ha : PA X [e, e2] ta)
    (hs : starEach [e, e2] X.env = (false, eval e X.env) :: starEach [e2] X.env := by rfl) (hpl : (backTo pos (starEach [e2] X.env)).any (·.1) = false := by rfl) :
    PI X (.Tuple elts kk tpos) (.Call (.Name "zip" p) [e, e2] [] pos) (iZipM X.K ta) := by
  refine ⟨fun pins s σ H R I h => ?_⟩
  refine Call_ (ld_blt I hg hm PyProof.Rows.boot_zip (PyProof.Rows.callWith_type1 (thn (ha.run pos pins s σ H _ I h) fun us s1 ⟨vs, H1, I1, r1, q1⟩ => ?_) hs hpl))
  obtain ⟨a, b, xs, ys, ex, hqx, hqy, q⟩ := q1
  subst ex
  cases r1 with
  | cons r rr =>
    cases rr with
    | cons r' rr =>
      cases rr
      cases r
      cases r'
      have fresh5 : ∀ c, c ∈ [s1.heap.objs.size + 4, s1.heap.objs.size + 2, s1.heap.objs.size + 3, s1.heap.objs.size, s1.heap.objs.size + 1] → FpOk X pins H1 c := fun c hcm => by
        have hle : s1.heap.objs.size ≤ c := by
          simp at hcm
          omega
        exact I1.fpOk hle (I1.hok.fresh hle)
      obtain ⟨its, rv, p1, _⟩ := I1.list hqx
      obtain ⟨its2, rv2, p2, _⟩ := I1.tuple hqy
      obtain ⟨o2, ho2, _⟩ := id p2
      refine call_zipM p1.isList (show s1.heap.IsTuple b its2.toArray from p2) fun h' hz hTI hTO h1 h2 hsz hk => wpAny_pyIter_zip hz ?_
      have I2 : Inv X pins σ H1 { s1 with heap := h' } := I1.kept (t' := s1.toks) hk
      exact ⟨s1.heap.objs.size + 4, [s1.heap.objs.size + 4, s1.heap.objs.size + 2, s1.heap.objs.size + 3, s1.heap.objs.size, s1.heap.objs.size + 1], _, _, H1, rfl, I2, turn_zipM (PySem.W.ktu_apart s1.heap.objs.size a b p1.lt (Heap.lt_size ho2)), ⟨hz, hTI, ⟨_, _, hTO⟩, h1, h2⟩, fresh5, q⟩

def zltOf (x y : Out) (m : Mem) : Option Src := match y with
  | .v (.tup b) => (lsrc x m).bind fun s => some ⟨zipD s.items b, s.live⟩
  | _ => none
@[simp] def iZlt (a b : E) (ρ : Env) (m : Mem) : Option (Src × Mem) := (a ρ m).bind fun x => (b ρ x.2).bind fun y => (zltOf x.1 y.1 y.2).bind fun s => some (s, y.2)
theorem si_zlt {X : Cx} {tg e : Expr} {fa fb : E} (h : PI X tg e (iZipM X.K (tCons (tE X.K fa) (tCons (tE X.K fb) tNil)))) : SI X tg e (iZlt fa fb) := pi_imp h fun σ H R ⟨ι, ρ, m, s, m', rs, rm, hf, k⟩ => by
  obtain ⟨x, h1, hf⟩ := bind_some hf
  obtain ⟨y, h2, hf⟩ := bind_some hf
  obtain ⟨s', h3, hf⟩ := bind_some hf
  cases hf
  refine ⟨ι, ρ, m, x.1, x.2, rs, rm, h1, fun v ι1 H1 l1 rm1 ro1 bd1 => ?_⟩
  refine ⟨ι1, ρ, x.2, y.1, y.2, rs.mono l1, rm1, h2, fun u ι2 H2 l2 rm2 ro2 bd2 => ?_⟩
  have ro1 := ro1.mono l2
  unfold zltOf at h3
  split at h3
  · rename_i b e2
    obtain ⟨t, h4, h3⟩ := bind_some h3
    cases h3
    rw [e2] at ro2
    obtain ⟨a, vs, rfl, hs, r, al⟩ := lsrc_at rm2 ro1 h4
    cases ro2 with
    | tup hs2 r2 =>
      refine ⟨_, _, _, _, rfl, hs, hs2.sq, fun bd => k _ ι2 H2 (l1.tr rm1 l2) rm2 ?_ bd ?_⟩
      · intro ι3 H3 m3 i l3 rm3 hc
        obtain ⟨ws, hs', r'⟩ := al ι3 H3 m3 l3 rm3 hc
        have hs2' := (l3.k.rdT hs2).sq
        have r2' := r2.mono l3
        refine ⟨fun hl => ⟨_, _, hs', hs2', ?_⟩, fun d hd => ?_⟩
        · rw [show (⟨zipD t.items b, t.live⟩ : Src).items = zipD t.items b from rfl, zipD_len] at hl
          rw [← r'.length, ← r2.length]; omega
        · obtain ⟨d1, d2, g1, g2, rfl⟩ := zipD_get hd
          obtain ⟨v1, w1, q1⟩ := r'.get g1
          obtain ⟨v2, w2, q2⟩ := r2'.get g2
          refine ⟨⟨_, _, v1, v2, hs', hs2', w1, w2⟩, fun z H4 hy => ?_⟩
          obtain ⟨T, z1, z2, rfl, hT, rfl, y1, y2⟩ := hy
          have y1 := y1 _ hs'
          have y2 := y2 _ hs2'
          rw [w1] at y1; cases y1
          rw [w2] at y2; cases y2
          exact ⟨Le.newAt hT, rm3.newAt hT, new_par hT (.cons q1 (.cons q2 .nil))⟩
      · show (zipD t.items b).length ≤ _
        rw [zipD_len]
        have := bd2 _ _ (.inr hs2.sq)
        rw [← r2.length] at this
        omega
  · cases h3
section
variable {X : Cx} {e a b c : Expr} {pos p tpos : Pos} {fa fb fc : E} {elts : List Expr} {kk : Nat}
theorem zlt_ (hm : X.mg "zip" = none) (ha : SE X a fa) (hb : SE X b fb) (hg : Gl X "zip" := by rfl) (hs : starEach [a, b] X.env = (false, eval a X.env) :: starEach [b] X.env := by rfl) (hs2 : starEach [b] X.env = (false, eval b X.env) :: starEach [] X.env := by rfl)
    (hpl : (backTo pos (starEach [b] X.env)).any (·.1) = false := by rfl) : SI X (.Tuple elts kk tpos) (.Call (.Name "zip" p) [a, b] [] pos) (iZlt fa fb) := si_zlt (pi_zipM hg hm (pa2 ha hb hs hs2) hs hpl)
end
end Q
/-! len of a dict by its entries -/
namespace Q
open PySem L2
section
variable {prog : Program} {w : World} {A : Around} {E : Value → Shared → Prop} {s : Shared}
theorem len_rawD {d : Addr} {es : Array DictEntry} {ep : Nat} {Q : Value → Shared → Prop} (hd : (d == sysModules) = false) (hm : s.heap.DictRaw d es ep) (hfit : (es.size : Int) < 2 ^ 63)
    (h : Q (.int es.size (s.toks + 1)) { s with toks := s.toks + 1 + 1 }) : wpAny (model prog w) A (call (.builtin "len") [.ref d]) Q E s := by
  refine Calls.call_function_entry kind_len plain_len entry_len (args_len1 _) ?_
  unfold Builtin.«len»
  refine wpAny_bind (m := oneArg "len" _) (wpAny_pure ?_)
  refine wpAny_bind (m := callSpecial? (.ref d) (Str.ofString "__len__")) (wpAny_callSpecial?_slot (name := Str.ofString "__len__") hm.typeIs F.slot_dict_len
    (call_meetsIn F.slot_dict_len hm.typeIs F.entry_dict_len (F.args_dict_len_1 _) (meets_dict_len_raw d hd) ⟨es, ep, hm, ?_⟩))
  show wpAny _ _ _ _ _ { s with toks := s.toks + 1 }
  refine wpAny_bind (wpAny_holding (wpAny_pure ?_))
  refine wpAny_bind (wpAny_letGo ?_)
  show wpAny _ _ (if ((es.size : Nat) : Int) < 0 then _ else _) _ _ _
  rw [if_neg (by omega)]
  show wpAny _ _ (if ((es.size : Nat) : Int) ≥ 2 ^ 63 then _ else _) _ _ _
  rw [if_neg (by omega)]
  exact wpAny_bind (wpAny_mkInt (wpAny_pure ⟨_, rfl, h⟩))
end
def rLnd (K : PySem.W.Frag) : List V → Hp → VK → Prop := fun xs H Q => ∃ a ks, xs = [.ref a] ∧ RawD K H a ks ∧ Q (.int ((ks.length : Nat) : Int)) H
theorem call_lnd {X : Cx} : CallR X (.builtin "len") (rLnd X.K) := by
  intro pins s σ H xs us Q I r q
  obtain ⟨a, ks, ex, hr, q⟩ := q
  subst ex
  obtain ⟨u, eu, rx⟩ := vals1 r
  subst eu
  cases rx
  obtain ⟨es, hm, hp, hs, hz⟩ := raw_heap I hr
  have hfit : (es.size : Int) < 2 ^ 63 := by
    obtain ⟨_, _, _, _, z, _⟩ := hr
    rw [sizeLine_eq] at z
    omega
  refine len_rawD (Q := EP X pins σ Q) hs hm hfit ⟨.int ((ks.length : Nat) : Int), H, (I.tok _).tok _, ?_, q⟩
  rw [hz]
  exact ⟨_, rfl⟩
def lndF (x : Out) (m : Mem) : Option (Out × Mem) := (dctOf x m).map fun kvs => (.v (.int ((kvs.length : Nat) : Int)), m)
theorem lndU {K : PySem.W.Frag} : R1S K (fun v H Q => rLnd K [v] H Q) lndF := by
  intro ι H H0 m x z vx m' Q rm bd rx hf k
  obtain ⟨kvs, h1, e⟩ := Option.map_eq_some_iff.mp hf
  cases e
  obtain ⟨a, ks, rfl, hr, dr⟩ := dct_at rm rx h1
  refine ⟨a, ks, rfl, hr, k _ ι H (Le.refl _ _) rm ?_⟩
  rw [Paired.length dr]
  exact RV.int _
section
variable {X : Cx} {a : Expr} {fa : E} {p pos : Pos}
theorem lnd_ (hm : X.mg "len" = none) (ha : SE X a fa) (hg : Gl X "len" := by rfl) (hs : starEach [a] X.env = (false, eval a X.env) :: starEach [] X.env := by rfl) (hpl : (backTo pos (starEach [] X.env)).any (·.1) = false := by rfl) : SE X (.Call (.Name "len" p) [a] [] pos) (eUn lndF fa) :=
  se_b1 (pe_callB call_lnd hg hm (by decide +kernel) (pa1 ha hs) (by decide) (by decide) hs hpl) lndU
end
theorem lnd_ref {M : Mem} {q : Nat} {kvs : List (D × D)} (h : M[q]? = some (.dcr kvs)) : lndF (.v (.ref q)) M = some (.v (.int ((kvs.length : Nat) : Int)), M) := by simp [lndF, dctOf, h]
end Q
/-! dict(a list of pairs) -/
namespace DV
open PySem
theorem vis_ext {h h' : Heap} {k : NestedKey} {v : Value} (x : VIs h k v) (e : ∀ b o, h.get? b = some o → h'.get? b = some o) : VIs h' k v := ⟨NestedIs.at (fun b ob vs n hb hc => e b ob hb) k _ x.1, x.2⟩
def stoVL (xs cs : List NE) : List NE := cs.foldl (fun acc c => stoV acc c.1 c.2.1 c.2.2) xs
theorem stoV_len (xs : List NE) (k : NestedKey) (key v : Value) : (stoV xs k key v).length ≤ xs.length + 1 := by unfold stoV; split <;> simp
theorem stoVL_len (cs : List NE) : ∀ xs : List NE, (stoVL xs cs).length ≤ xs.length + cs.length := by
  induction cs with
  | nil => exact fun xs => Nat.le_refl _
  | cons c cs ih =>
    intro xs
    have h1 := ih (stoV xs c.1 c.2.1 c.2.2)
    have h2 := stoV_len xs c.1 c.2.1 c.2.2
    simp only [List.length_cons]
    show (stoVL (stoV xs c.1 c.2.1 c.2.2) cs).length ≤ _
    omega
theorem stoV_mem {xs : List NE} {k : NestedKey} {key v : Value} {y : NE} (h : y ∈ stoV xs k key v) : (∃ x ∈ xs, y.1 = x.1 ∧ y.2.1 = x.2.1) ∨ (y.1 = k ∧ y.2.1 = key) := by
  unfold stoV at h
  split at h
  · obtain ⟨x, hx, rfl⟩ := List.mem_map.mp h
    refine .inl ⟨x, hx, ?_⟩
    unfold putV
    split <;> exact ⟨rfl, rfl⟩
  · rcases List.mem_append.mp h with h | h
    · exact .inl ⟨y, h, rfl, rfl⟩
    · simp only [List.mem_singleton] at h
      subst h
      exact .inr ⟨rfl, rfl⟩
theorem stoVL_keys {P : NestedKey → Value → Prop} : ∀ {cs xs : List NE}, (∀ x ∈ xs, P x.1 x.2.1) → (∀ x ∈ cs, P x.1 x.2.1) → ∀ x ∈ stoVL xs cs, P x.1 x.2.1
  | [], _, h, _ => h
  | c :: cs, xs, h, hp => stoVL_keys (cs := cs) (fun x hx => by
      rcases stoV_mem hx with ⟨y, hy, e1, e2⟩ | ⟨e1, e2⟩
      · rw [e1, e2]; exact h y hy
      · rw [e1, e2]; exact hp c List.mem_cons_self) fun x hx => hp x (List.mem_cons_of_mem _ hx)
theorem stoVL_take (xs cs : List NE) (i : Nat) (c : NE) (h : cs[i]? = some c) : stoVL xs (cs.take (i + 1)) = stoV (stoVL xs (cs.take i)) c.1 c.2.1 c.2.2 := by
  unfold stoVL
  rw [List.take_add_one, h, List.foldl_append]
  rfl
section
variable {prog : Program} {w : World} {A : Around} {E : Value → Shared → Prop} {s : Shared}
theorem dictL {a : Addr} {items : Array Value} {Ts : Nat → Addr} {cs : List NE} {Q : Value → Shared → Prop} (hh : A.handled = none) (hu : A.units + 65 < cLine) (hl : PlainSeq "list" s.heap a items) (hp : PairItems s.heap items Ts (cs.map fun c => (c.2.1, c.2.2))) (hk : ∀ c ∈ cs, VIs s.heap c.1 c.2.1) (hsz : cs.length ≤ sizeLine)
    (h : ∀ h' tk es, DOk w h' s.heap.objs.size es (stoVL [] cs) → (∀ b o, s.heap.get? b = some o → h'.get? b = some o) → Q (.ref s.heap.objs.size) { s with heap := h', toks := tk }) :
    wpAny (model prog w) A (call (.type "dict") [.ref a]) Q E s := by
  have P := PairArg.list (prog := prog) (w := w) a items Ts (cs.map fun c => (c.2.1, c.2.2))
  refine call_dict_arg P ⟨hl, hp⟩ fun s₁ hs₁ hdf ok₁ => ?_
  subst hs₁
  have lt : ∀ b o, s.heap.get? b = some o → b ≠ s.heap.objs.size := fun b o e => Nat.ne_of_lt (Heap.lt_size e)
  refine updateFrom_arg (A := A.in1) (Tab := fun i h => (∃ es, DOk w h s.heap.objs.size es (stoVL [] (cs.take i))) ∧ ∀ b o, s.heap.get? b = some o → h.get? b = some o) P .none hh ok₁ hdf ?_ ?_ ?_ ?_ ?_
  · exact ⟨⟨#[], _, 0, rfl, Heap.get?_push_size _ rfl, ⟨rfl, rfl, rfl⟩, rfl, rfl, fun x hx => (by cases hx), (by simp [stoVL])⟩, fun b o e => Heap.get?_push_of_some _ e⟩
  · intro i h tb
    obtain ⟨⟨es, o, ep, _, ho, _⟩, _⟩ := tb
    exact Heap.lt_size ho
  · intro i h h' wr' hd hw tb hkk
    have fr : ∀ b o, s.heap.get? b = some o → h'.get? b = some o := fun b o e => hkk b o (fun hm => by
      rcases hw b hm with z | z
      · cases z
      · rw [Heap.get?_push_of_some _ e] at z; cases z) (tb.2 b o e)
    obtain ⟨es, o, ep, hep, ho, hc, hdt, he, his, hn⟩ := tb.1
    exact ⟨⟨es, o, ep, hep, hkk _ o hd ho, hc, hdt, he, stoVL_keys (P := fun k v => VIs h' k v) (fun x hx => by cases hx) (fun x hx => vis_ext (hk x (List.mem_of_mem_take hx)) fr), hn⟩, fr⟩
  · intro i key v s' Q' E' hi hrel tb _ hQ
    obtain ⟨es, hm⟩ := tb.1
    rw [PairRel, List.getElem?_map] at hrel
    obtain ⟨c, hc, ec⟩ := Option.map_eq_some_iff.mp hrel
    cases ec
    refine dset (A := A.in1.in1) (by simp; omega) (vis_ext (hk c (List.mem_of_getElem? hc)) tb.2) hm ?_ fun h' es' hm' hs => ?_
    · have := stoVL_len (cs.take i) []
      have hi' : i < cs.length := (List.getElem?_eq_some_iff.mp hc).1
      simp at this
      omega
    · refine hQ h' _ ⟨⟨es', by rw [stoVL_take [] cs i c hc]; exact hm'⟩, fun b o e => (hs.2 b (lt b o e)).trans (tb.2 b o e)⟩ hs
  · intro h' tk tb _
    have e : cs.take (cs.map fun c => (c.2.1, c.2.2)).length = cs := List.take_of_length_le (by simp)
    rw [e] at tb
    obtain ⟨es, hm⟩ := tb.1
    exact ⟨rfl, h h' tk es hm tb.2⟩
end
end DV
namespace Q
open PySem L2 DV
abbrev RlN (K : PySem.W.Frag) (H : Hp) (p : NestedKey × V) (x : NE) : Prop := p.1 = x.1 ∧ (∃ kv, KN K H p.1 kv ∧ RelV kv x.2.1) ∧ RelV p.2 x.2.2 ∧ p.1.depth ≤ 8
def stoL {β : Type} (ks cs : List (NestedKey × β)) : List (NestedKey × β) := cs.foldl (fun acc c => sto acc c.1 c.2) ks
section
variable {K : PySem.W.Frag} {H : Hp}
theorem sto_pair {ks : List (NestedKey × V)} {xs : List NE} {k : NestedKey} {kv v : V} {key u : Value} (hp : Paired (RlN K H) ks xs) (hk : KN K H k kv) (hr : RelV kv key) (hd : k.depth ≤ 8) (hv : RelV v u) : Paired (RlN K H) (sto ks k v) (stoV xs k key u) := by
  have hl := look_at (k := k) hp
  unfold sto stoV
  rcases hl with ⟨e1, e2⟩ | ⟨v0, u0, e1, e2, _⟩
  · rw [e1, e2]
    simp only [Option.isSome_none, Bool.false_eq_true, if_false]
    clear e1 e2
    induction hp with
    | nil => exact .cons ⟨rfl, ⟨kv, hk, hr⟩, hv, hd⟩ .nil
    | cons h _ ih => exact .cons h ih
  · rw [e1, e2]
    simp only [Option.isSome_some, if_true]
    clear e1 e2
    induction hp with
    | nil => exact .nil
    | @cons p x ps xs h _ ih =>
      refine .cons ?_ ih
      show RlN K H (if p.1 = k then (p.1, v) else p) _
      by_cases hkk : p.1 = k
      · have hkk' : x.1 = k := h.1 ▸ hkk
        rw [if_pos hkk]
        unfold putV
        rw [if_pos hkk']
        exact ⟨h.1, h.2.1, hv, h.2.2.2⟩
      · have hkk' : ¬ x.1 = k := h.1 ▸ hkk
        rw [if_neg hkk]
        unfold putV
        rw [if_neg hkk']
        exact h
theorem stoL_pair {cs : List (NestedKey × V)} {ys : List NE} (h : Paired (RlN K H) cs ys) : ∀ {ks : List (NestedKey × V)} {xs : List NE}, Paired (RlN K H) ks xs → Paired (RlN K H) (stoL ks cs) (stoVL xs ys) := by
  induction h with
  | nil => exact fun h => h
  | @cons c y cs ys hc _ ih =>
    intro ks xs hp
    obtain ⟨e, ⟨kv, h1, h2⟩, h3, h4⟩ := hc
    have := sto_pair hp h1 h2 h4 h3
    refine ih (ks := sto ks c.1 c.2) (xs := stoV xs y.1 y.2.1 y.2.2) ?_
    rw [← e]; exact this
theorem ent_of {w : World} {ks : List (NestedKey × V)} {xs : List NE} (h : Paired (RlN K H) ks xs) : Paired (EntV K H) ks (xs.map (entV w)) := by
  induction h with
  | nil => exact .nil
  | @cons p x _ _ hc _ ih =>
    obtain ⟨h1, ⟨kv, h2, h3⟩, h4, h5⟩ := hc
    refine .cons ⟨⟨kv, h2, h3⟩, fun w' => ?_, h4, h5⟩ ih
    show x.1.hash w = _
    rw [← h1]; exact h2.hsh w w'
theorem stoL_keys {β : Type} (cs : List (NestedKey × β)) : ∀ {ks : List (NestedKey × β)}, (ks.map (·.1)).Nodup → ((stoL ks cs).map (·.1)).Nodup := by
  induction cs with
  | nil => exact fun h => h
  | cons c cs ih => exact fun h => ih (sto_keys h)
theorem stoL_len {β : Type} (cs : List (NestedKey × β)) : ∀ (ks : List (NestedKey × β)), (stoL ks cs).length ≤ ks.length + cs.length := by
  induction cs with
  | nil => exact fun ks => Nat.le_refl _
  | cons c cs ih =>
    intro ks
    have h1 := ih (sto ks c.1 c.2)
    have h2 := sto_len ks c.1 c.2
    simp only [List.length_cons]
    show (stoL (sto ks c.1 c.2) cs).length ≤ _
    omega
end
def rDictP (K : PySem.W.Frag) : List V → Hp → VK → Prop := fun xs H Q => ∃ (a : Addr) (ps : List Addr) (cs : List (NestedKey × V × V)), xs = [.ref a] ∧ SqL K H a (ps.map V.ref) ∧ Paired (fun p (c : NestedKey × V × V) => SqT K H p [c.2.1, c.2.2] ∧ KN K H c.1 c.2.1 ∧ c.1.depth ≤ 8) ps cs ∧
  ∀ p, H p = none → (p == sysModules) = false → ∀ es', Paired (EntV K H) (stoL [] (cs.map fun c => (c.1, c.2.2))) es'.toList → Q (.ref p) (upd H p (RawO p es'))
section
variable {X : Cx}
theorem pgets0 {α β : Type} {R : α → β → Prop} {xs : List α} {ys : List β} (h : Paired R xs ys) : ∀ {i : Nat} {x : α}, xs[i]? = some x → ∃ y, ys[i]? = some y ∧ R x y := by
  induction h with
  | nil => intro i x e; simp at e
  | cons r _ ih =>
    intro i x e
    cases i with
    | zero => simp at e; subst e; exact ⟨_, rfl, r⟩
    | succ i => obtain ⟨y, h1, h2⟩ := ih (by simpa using e); exact ⟨y, by simpa using h1, h2⟩
theorem pairs_at {pins : List (Addr × Obj)} {σ : St} {H : Hp} {s : Shared} (I : Inv X pins σ H s) {ps : List Addr} {cs : List (NestedKey × V × V)} (h : Paired (fun p (c : NestedKey × V × V) => SqT X.K H p [c.2.1, c.2.2] ∧ KN X.K H c.1 c.2.1 ∧ c.1.depth ≤ 8) ps cs) :
    ∃ xs : List NE, Paired (RlN X.K H) (cs.map fun c => (c.1, c.2.2)) xs ∧ (∀ x ∈ xs, VIs s.heap x.1 x.2.1) ∧ Paired (fun p (x : NE) => PairAt s.heap p x.2.1 x.2.2) ps xs := by
  induction h with
  | nil => exact ⟨[], .nil, by simp, .nil⟩
  | @cons p c ps cs hc _ ih =>
    obtain ⟨xs, h1, h2, h3⟩ := ih
    obtain ⟨ht, hk, hd⟩ := hc
    obtain ⟨its, rv, hT, _⟩ := I.tuple ht
    cases rv with
    | @cons _ u1 _ us r1 rv =>
      cases rv with
      | @cons _ u2 _ us r2 rv =>
        cases rv
        refine ⟨(c.1, u1, u2) :: xs, .cons ⟨rfl, ⟨c.2.1, hk, r1⟩, r2, hd⟩ h1, fun x hx => ?_, .cons (.inl ?_) h3⟩
        · rcases List.mem_cons.mp hx with rfl | hx
          · exact ⟨hk.is I r1, hd⟩
          · exact h2 x hx
        · obtain ⟨o, ho, hc, n, hdt⟩ := hT
          exact ⟨o, ho, hc, n, by simpa using hdt⟩
theorem call_dictR (hcalm : X.calm = true) (hu : X.A.units + 65 < cLine) : CallR X (.type "dict") (rDictP X.K) := by
  intro pins s σ H xs us Q I r q
  obtain ⟨a, ps, cs, ex, hq, hp, q⟩ := q
  subst ex
  obtain ⟨u, eu, rx⟩ := vals1 r
  subst eu
  cases rx
  obtain ⟨its, rv, pl, hz⟩ := I.list hq
  have ei := refs_at rv
  subst ei
  rw [List.length_map] at hz
  obtain ⟨ys, h1, h2, h3⟩ := pairs_at I hp
  obtain ⟨o, n, ho, hc, hd, hdat⟩ := pl
  have hly : ys.length = ps.length := (Paired.length h3).symm
  refine dictL (Ts := fun j => ps.getD j 0) (cs := ys) (I.ok.hd hcalm) hu ⟨o, n, ho, hc, hd, hdat⟩ ⟨by simp [hly], fun j k v hj => ?_⟩ h2 (by rw [hly]; exact hz) fun h' tk es hm fr => ?_
  · rw [List.getElem?_map] at hj
    obtain ⟨x, hx, e⟩ := Option.map_eq_some_iff.mp hj
    cases e
    have hjl : j < ps.length := by rw [← hly]; exact (List.getElem?_eq_some_iff.mp hx).1
    obtain ⟨y, hy, r⟩ := pgets0 h3 (List.getElem?_eq_getElem hjl)
    rw [hx] at hy; cases hy
    have eg : ps.getD j 0 = ps[j] := by simp [List.getD, hjl]
    refine ⟨?_, by show PairAt s.heap (ps.getD j 0) _ _; rw [eg]; exact r⟩
    simp [hjl]
  · have hm' := hm.raw
    have he : es.toList = (stoVL [] ys).map (entV X.w) := let ⟨_, _, _, _, _, _, he, _⟩ := hm; he
    have hsys : (s.heap.objs.size == sysModules) = false := beq_eq_false_iff_ne.mpr (Nat.ne_of_gt I.big)
    refine ⟨.ref s.heap.objs.size, upd H s.heap.objs.size (RawO s.heap.objs.size es), I.laid (t' := tk) fr (Nat.le_refl _) (rawO_new hm'), rfl, q _ (I.hok.fresh (Nat.le_refl _)) hsys es ?_⟩
    rw [he]
    exact ent_of (stoL_pair h1 .nil)
end
/-! ### in the plain layer -/
def prOf : D → Option (D × D)
  | .tup [k, v] => (keyOf (.v k)).map fun _ => (k, v)
  | _ => none
def pairsD : List D → Option (List (D × D))
  | [] => some []
  | d :: ds => (prOf d).bind fun p => (pairsD ds).map fun r => p :: r
noncomputable def dstoL (kvs cs : List (D × D)) : List (D × D) := cs.foldl (fun acc c => dsto acc c.1 c.2) kvs
noncomputable def dictF (x : Out) (m : Mem) : Option (Out × Mem) := (lstOf x m).bind fun ds => (pairsD ds).map fun cs => (.o (.dcr (dstoL [] cs)), m)
section
variable {K : PySem.W.Frag} {ι : List Addr} {H : Hp}
theorem pairsD_at : ∀ {ds : List D} {vs : List V} {cs : List (D × D)}, RVs K ι H ds vs → pairsD ds = some cs →
    ∃ (ps : List Addr) (es : List (NestedKey × V × V)), vs = ps.map V.ref ∧ Paired (fun p (c : NestedKey × V × V) => SqT K H p [c.2.1, c.2.2] ∧ KN K H c.1 c.2.1 ∧ c.1.depth ≤ 8) ps es ∧ DR K ι H cs (es.map fun c => (c.1, c.2.2))
  | _, _, _, .nil, h => by cases h; exact ⟨[], [], rfl, .nil, .nil⟩
  | d :: ds, v :: vs, cs, .cons r t, h => by
    rw [pairsD] at h
    obtain ⟨p, h1, h⟩ := bind_some h
    obtain ⟨cs', h2, rfl⟩ := Option.map_eq_some_iff.mp h
    obtain ⟨ps, es, rfl, hp, dr⟩ := pairsD_at t h2
    unfold prOf at h1
    split at h1
    · rename_i k v'
      obtain ⟨k', hk', e⟩ := Option.map_eq_some_iff.mp h1
      subst e
      cases r with
      | tup ht rs =>
        rename_i a us
        cases rs with
        | cons rk rs => cases rs with
          | cons rv rs =>
            cases rs
            have ek : k' = k := by
              unfold keyOf at hk'
              simp only at hk'
              split at hk'
              · split at hk'
                · cases hk'; rfl
                · cases hk'
              · cases hk'
            obtain ⟨kk, e1, e2, e3⟩ := key_at (H0 := H) (x := .v k) rk hk'
            subst ek
            exact ⟨a :: ps, (kk, _, _) :: es, rfl, .cons ⟨ht.sq, e2, e3⟩ hp, .cons ⟨e1, rv⟩ dr⟩
    · cases h1
theorem dstoL_rel {cs : List (D × D)} {es : List (NestedKey × V)} (h : DR K ι H cs es) : ∀ {kvs : List (D × D)} {ks : List (NestedKey × V)}, DR K ι H kvs ks → DR K ι H (dstoL kvs cs) (stoL ks es) := by
  induction h with
  | nil => exact fun h => h
  | @cons c e cs es hc _ ih =>
    intro kvs ks hd
    have := sto_rel (k := e.1) hd hc.2
    refine ih (kvs := dsto kvs c.1 c.2) (ks := sto ks e.1 e.2) ?_
    rw [hc.1]; exact this
theorem dictU : R1S K (fun v H Q => rDictP K [v] H Q) dictF := by
  intro ι H H0 m x z vx m' Q rm bd rx hf k
  obtain ⟨ds, h1, hf⟩ := bind_some hf
  obtain ⟨cs, h2, e⟩ := Option.map_eq_some_iff.mp hf
  cases e
  obtain ⟨a, vs, rfl, hl, r⟩ := lst_at rm rx h1
  obtain ⟨ps, es, rfl, hp, dr⟩ := pairsD_at r h2
  have hz : (ps.map V.ref).length ≤ sizeLine := bd a _ (.inl (.inl (.inl hl)))
  refine ⟨a, ps, es, rfl, .inl (.inl hl), hp, fun p hpn hs es' hes => ?_⟩
  have dr' := dstoL_rel dr (kvs := []) (ks := []) .nil
  have hlen : (stoL [] (es.map fun c : NestedKey × V × V => (c.1, c.2.2))).length ≤ sizeLine := by
    refine Nat.le_trans (stoL_len _ _) ?_
    have := Paired.length hp
    simp at hz ⊢
    omega
  have lk := Kp.newAt (ι := ι) (o := RawO p es') hpn
  refine k _ ι _ (Le.newAt hpn) (rm.newAt hpn) ⟨p, rfl, hpn, fun z => rm.there p z hpn, _, ⟨es', upd_same, Paired.mapP hes fun x e ⟨⟨kv, z1, z2⟩, z3⟩ => ⟨⟨kv, z1.kp lk, z2⟩, z3⟩, stoL_keys _ (by simp), hlen, hs⟩, dr'.mono lk⟩
end
section
variable {X : Cx} {a : Expr} {fa : E} {p pos : Pos} {kk : Nat}
theorem dict_ (hr : Room kk X.A) (hm : X.mg "dict" = none) (ha : SE X a fa) (hc : X.calm = true := by rfl) (hg : Gl X "dict" := by rfl) (hs : starEach [a] X.env = (false, eval a X.env) :: starEach [] X.env := by rfl) (hpl : (backTo pos (starEach [] X.env)).any (·.1) = false := by rfl) : SE X (.Call (.Name "dict" p) [a] [] pos) (eUn dictF fa) :=
  se_b1 (pe_callTy (call_dictR hc (u65 hr)) hg hm (by decide +kernel) (pa1 ha hs) (by decide) (by decide) hs hpl) dictU
end
end Q
/-! t[::-1] of a tuple -/
namespace Q
open PySem PySem.Spec PyProof.Rows L2 HT
section
variable {prog : Program} {w : World} {A : Around} {E : Value → Shared → Prop} {s : Shared}
theorem adjust_rev (n : Nat) : Builtin.Slice.sliceAdjust none none (-1) (n : Int) = ((n : Int) - 1, -1) := by
  unfold Builtin.Slice.sliceAdjust
  simp
theorem places_rev (n : Nat) : Builtin.Slice.slicePlaces ((n : Int) - 1) (-1) (-1) = n := by
  unfold Builtin.Slice.slicePlaces
  simp only [show ¬ ((-1 : Int) > 0) by omega, if_false]
  by_cases h : n = 0
  · subst h; simp
  · rw [if_pos (by omega)]
    simp
theorem sliceApplied_rev {sl : Addr} {vl vu vs : Value} {n : Nat} {Q : Int × Int × Nat → Shared → Prop} (hs : s.heap.IsSliceOf sl vl vu vs) (pl : IsPart vl none) (pu : IsPart vu none) (ps : IsPart vs (some (-1)))
    (h : Q ((n : Int) - 1, -1, n) s) : wpAny (model prog w) A (Builtin.Slice.sliceApplied (.ref sl) (pure (n : Int))) Q E s := by
  obtain ⟨os, hos, hcs, hds⟩ := id hs
  unfold Builtin.Slice.sliceApplied Builtin.Slice.sliceFields
  refine wpAny_bind (wpAny_bind (wpAny_field hos hds (x := vl) rfl (wpAny_bind (wpAny_field hos hds (x := vu) rfl (wpAny_bind (wpAny_field hos hds (x := vs) rfl (wpAny_pure ?_)))))))
  refine wpAny_bind (slicePart_ ps ?_)
  show wpAny _ _ (if ((-1 : Int) == 0) = true then _ else _) _ _ s
  rw [if_neg (by decide)]
  refine wpAny_bind (slicePart_ pl (wpAny_bind (slicePart_ pu (wpAny_bind (wpAny_pure ?_)))))
  show wpAny _ _ (match Builtin.Slice.sliceAdjust none none (-1) (n : Int) with | (lo, hi) => pure (lo, (-1 : Int), Builtin.Slice.slicePlaces lo hi (-1))) _ _ s
  rw [adjust_rev n]
  show wpAny _ _ (pure ((n : Int) - 1, (-1 : Int), Builtin.Slice.slicePlaces ((n : Int) - 1) (-1) (-1))) _ _ s
  rw [places_rev]
  exact wpAny_pure h
theorem flm_congr {α β : Type} {f g : α → Option β} : ∀ (xs : List α), (∀ x ∈ xs, f x = g x) → xs.filterMap f = xs.filterMap g
  | [], _ => rfl
  | x :: xs, h => by
    rw [List.filterMap_cons, List.filterMap_cons, h x (by simp), flm_congr xs fun y hy => h y (by simp [hy])]
theorem pick_rev (xs : Array Value) : ((List.range xs.size).filterMap fun (m : Nat) => xs[(((xs.size : Int) - 1) + (m : Int) * (-1)).toNat]?).toArray = xs.toList.reverse.toArray := by
  congr 1
  have e : ∀ m, m ∈ List.range xs.size → xs[(((xs.size : Int) - 1) + (m : Int) * (-1)).toNat]? = (xs.toList.reverse)[m]? := by
    intro m hm
    have hm' := List.mem_range.mp hm
    have : (((xs.size : Int) - 1) + (m : Int) * (-1)).toNat = xs.size - 1 - m := by omega
    rw [this, List.getElem?_reverse (by simpa using hm')]
    simp
  have e2 : (List.range xs.size).filterMap (fun (m : Nat) => xs[(((xs.size : Int) - 1) + (m : Int) * (-1)).toNat]?) = (List.range xs.size).filterMap fun m => (xs.toList.reverse)[m]? := flm_congr _ e
  rw [e2]
  have hl : xs.size = xs.toList.reverse.length := by simp
  rw [hl]
  generalize xs.toList.reverse = ys
  apply List.ext_getElem?
  intro i
  have : (List.range ys.length).filterMap (fun m => ys[m]?) = ys := by
    have h : ∀ k, k ≤ ys.length → (List.range k).filterMap (fun m => ys[m]?) = ys.take k := by
      intro k
      induction k with
      | zero => intro _; simp
      | succ k ih =>
        intro hk
        have hk' : k < ys.length := by omega
        rw [List.range_succ, List.filterMap_append, ih (by omega), List.take_add_one]
        simp [List.getElem?_eq_getElem hk']
    have := h ys.length (Nat.le_refl _)
    rwa [List.take_length] at this
  rw [this]
theorem getItem_tuple_rev {t sl : Addr} {items : Array Value} {vl vu vs : Value} {Q : Value → Shared → Prop} (ht : IsTup s.heap t items) (hs : s.heap.IsSliceOf sl vl vu vs) (pl : IsPart vl none) (pu : IsPart vu none) (ps : IsPart vs (some (-1)))
    (h : Q (.ref s.heap.objs.size) { s with heap := s.heap.push { cls := .type "tuple", data := .seq items.toList.reverse.toArray } })
    (hsz : items.size ≤ sizeLine) : wpAny (model prog w) A (getItem (.ref t) (.ref sl)) Q E s := by
  have htake : sizeOk (.seq items.toList.reverse.toArray) := by
    show items.toList.reverse.toArray.size ≤ sizeLine
    rw [List.size_toArray, List.length_reverse, Array.length_toList]
    exact hsz
  obtain ⟨os, hos, hcs, hds⟩ := id hs
  have hTs : s.TypeIs (.ref sl) "slice" := ⟨os, hos, hcs⟩
  unfold getItem
  try with_reducible refine wpAny_holding ?_
  first | refine wpAny_bind (wpAny_pure ?_) | skip
  refine wpAny_bind (wpAny_sequenceKey ht.typeIs (by decide) ?_)
  refine wpAny_bind (wpAny_callSpecial?_slot (name := Str.ofString "__getitem__") ht.typeIs PyProof.Rows.slot_tuple_getitem
    (wpAny_call_entry PyProof.Rows.slot_tuple_getitem ht.typeIs entry_tuple_getitem ?_ (args_tuple_getitem _ _)))
  show wpAny _ _ (Builtin.Tuple.tupleItemsOf (.ref t) >>= _) _ _ s
  refine wpAny_bind (tupleItemsOf_ ht ?_)
  refine wpAny_bind (wpAny_typeOf hTs ?_)
  rw [if_pos (by decide)]
  refine wpAny_bind (sliceApplied_rev hs pl pu ps ?_)
  have hno : ¬ ((((items.size : Int) - 1) == 0 && (-1 : Int) == 1 && items.size == items.size) = true) := by
    intro q
    rw [Bool.and_eq_true, Bool.and_eq_true] at q
    have q1 : (-1 : Int) = 1 := eq_of_beq q.1.2
    omega
  show wpAny _ _ (if (((items.size : Int) - 1) == 0 && (-1 : Int) == 1 && items.size == items.size) = true then _ else _) _ _ s
  rw [if_neg hno, pick_rev]
  first
    | exact wpAny_bind (m := Builtin.Tuple.tupleExact _) (wpAny_newObj_type (wpAny_pure ⟨_, rfl, wpAny_pure h⟩) htake)
    | exact wpAny_bind (m := Builtin.Tuple.tupleExact _) (wpAny_newObj_type (wpAny_bind (wpAny_pure (wpAny_pure ⟨_, rfl, wpAny_pure h⟩))) htake)
    | exact wpAny_bind (wpAny_bind (m := Builtin.Tuple.tupleExact _) (wpAny_newObj_type (wpAny_pure (wpAny_pure ⟨_, rfl, wpAny_pure h⟩)) htake))
    | exact wpAny_bind (wpAny_bind (m := Builtin.Tuple.tupleExact _) (wpAny_newObj_type (wpAny_pure ⟨_, rfl, wpAny_pure h⟩) htake))
end
def tRevT (K : PySem.W.Frag) (te : TE) : TE := fun σ H Q => te σ H fun x H1 => ∃ a xs, x = .ref a ∧ SqT K H1 a xs ∧ TpN H1 xs.reverse Q
section
variable {X : Cx}
theorem pe_revT {e : Expr} {te : TE} {k : Nat} {p1 p2 p3 pos : Pos} (he : PE X e te) : PE X (.Subscript e (.Slice none none (some (.UnaryOp .USub (.Constant (.int 1) k p1) p2)) p3) pos) (tRevT X.K te) := by
  refine ⟨fun pins s σ H Q I h => ?_⟩
  refine Subscript_ (thn (he.run pins s σ H _ I h) fun v s1 ⟨x, H1, I1, r1, q1⟩ => ?_)
  obtain ⟨a, xs, ex, hx, q⟩ := q1
  subst ex
  cases r1
  have hst : PO X (some (.UnaryOp .USub (.Constant (.int 1) k p1) p2)) (tPart (tUn (rU fun i => .int (-i)) (tC (.int 1)))) := po_some (pe_un un_neg pe_int)
  refine wpAny_Slice (thn (po_none.run pins s1 σ H1 (fun o H2 => o = none ∧ H2 = H1) I1 ⟨rfl, rfl⟩) fun vl s2 ⟨l, H2, I2, pl, el, e2⟩ => ?_)
  subst el e2
  refine thn (po_none.run pins s2 σ H2 (fun o H3 => o = none ∧ H3 = H2) I2 ⟨rfl, rfl⟩) fun vu s3 ⟨u, H3, I3, pu, eu, e3⟩ => ?_
  subst eu e3
  refine thn (hst.run pins s3 σ H3 (fun o H4 => o = some (-1) ∧ H4 = H3) I3 ⟨1, rfl, -1, rfl, rfl, rfl⟩) fun vs s4 ⟨o, H4, I4, ps, eo, e4⟩ => ?_
  subst eo e4
  have I5 : Inv X pins σ H4 { s4 with heap := s4.heap.push { cls := .type "slice", data := .fields #[vl, vu, vs] } } := I4.kept (t' := s4.toks) fun b ob q => Heap.get?_push_of_some _ q
  obtain ⟨its, r, ht, hz⟩ := I5.tuple hx
  have hlen := r.length
  show wpAny (model X.prog X.w) X.A (subscriptTail e (.Slice none none (some (.UnaryOp .USub (.Constant (.int 1) k p1) p2)) p3) (.ref a) (.ref s4.heap.objs.size)) (EP X pins σ Q) X.xe { s4 with heap := s4.heap.push { cls := .type "slice", data := .fields #[vl, vu, vs] } }
  refine tail_any (ops := [.ref a, .ref s4.heap.objs.size]) ht.typeIs (PyProof.Rows.slot_tuple_getitem.lookup) ?_ (by with_unfolding_all rfl)
  refine getItem_tuple_rev ht (Heap.IsSliceOf.new _ vl vu vs) pl pu ps ?_ (by rw [List.size_toArray]; omega)
  exact ⟨.ref _, _, I5.laid (t' := s4.toks) (o := .frz _ (.tup xs.reverse)) (fun b ob q => Heap.get?_push_of_some _ q) (Nat.le_refl _) (tup_ok (by rw [List.length_reverse]; exact hz) r.reverse (by simp) (Heap.get?_push_size _ rfl)), rfl, q _ _ (I5.hok.fresh (Nat.le_refl _)) rfl⟩
end
def revTF (x : Out) (m : Mem) : Option (Out × Mem) := match x with
  | .v (.tup xs) => some (.v (.tup xs.reverse), m)
  | _ => none
theorem RVs.rev {K : PySem.W.Frag} {ι : List Addr} {H : Hp} : ∀ {ds : List D} {vs : List V}, RVs K ι H ds vs → RVs K ι H ds.reverse vs.reverse
  | _, _, .nil => .nil
  | _, _, .cons r t => by
    rw [List.reverse_cons, List.reverse_cons]
    exact (RVs.rev t).append (.cons r .nil)
theorem revTU {K : PySem.W.Frag} : R1S K (fun v H Q => ∃ a xs, v = .ref a ∧ SqT K H a xs ∧ TpN H xs.reverse Q) revTF := by
  intro ι H H0 m x z vx m' Q rm bd rx hf k
  unfold revTF at hf
  split at hf
  · cases hf
    cases rx with
    | tup hs r => exact ⟨_, _, rfl, hs.sq, fun p o hp ho => k _ ι _ (Le.newAt hp) (rm.newAt hp) (new_tup hp ho r.rev)⟩
  · cases hf
section
variable {X : Cx} {e : Expr} {fa : E} {k : Nat} {p1 p2 p3 pos : Pos}
theorem revT_ (ha : SE X e fa) : SE X (.Subscript e (.Slice none none (some (.UnaryOp .USub (.Constant (.int 1) k p1) p2)) p3) pos) (eUn revTF fa) := pe_imp (pe_revT ha) fun σ H Q ⟨ι, ρ, m, z, m', rs, rm, hf, k⟩ => by
  obtain ⟨x, h1, hf⟩ := bind_some hf
  refine ⟨ι, ρ, m, x.1, x.2, rs, rm, h1, fun v ι1 H1 l1 rm1 ro1 bd1 => ?_⟩
  exact revTU ι1 H1 H x.2 x.1 z v m' _ rm1 bd1 ro1 hf fun w ι3 H3 l3 rm3 ro3 bd3 => k w ι3 H3 (l1.tr rm1 l3) rm3 (ro3.from l1 rm1) bd3
end
end Q
namespace Q
open PySem L2
/-! ### min(xs), max(xs): a list or a tuple of data that are alike -/
/-- the comparing of what stands in the heap h0, wherever that heap has gone on -/
def CmpAt (prog : Program) (w : World) (A : Around) (op : CmpOp) (h0 : Heap) (P : Nat → Value → Prop) (bt : Nat → Nat → Bool) : Prop :=
  ∀ (i j : Nat) (vi vj : Value) (s : Shared) (Q : Value → Shared → Prop) (E : Value → Shared → Prop), P i vi → P j vj → (∀ b o, h0.get? b = some o → s.heap.get? b = some o) → Q (.bool (bt i j)) s → wpAny (model prog w) A (richCompare op vi vj) Q E s

theorem dpAll_get {K : PySem.W.Frag} {H : Hp} : ∀ {xs : List V} {ds : List PyData} {i : Nat} {x : V}, DpAll K H xs ds → xs[i]? = some x → ∃ d, ds[i]? = some d ∧ Dp K H x d
  | _, _, _, _, .nil, h => by simp at h
  | _, _, 0, _, .cons h _, e => by simp at e; subst e; exact ⟨_, rfl, h⟩
  | _, _, i + 1, _, .cons _ t, e => by simp at e; obtain ⟨d, h1, h2⟩ := dpAll_get t e; exact ⟨d, by simpa using h1, h2⟩
theorem dpAll_len {K : PySem.W.Frag} {H : Hp} : ∀ {xs : List V} {ds : List PyData}, DpAll K H xs ds → xs.length = ds.length
  | _, _, .nil => rfl
  | _, _, .cons _ t => by simp [dpAll_len t]
theorem vals_get : ∀ {xs : List V} {us : List Value} {i : Nat} {u : Value}, Vals xs us → us[i]? = some u → ∃ x, xs[i]? = some x ∧ RelV x u
  | _, _, _, _, .nil, h => by simp at h
  | _, _, 0, _, .cons r _, e => by simp at e; subst e; exact ⟨_, rfl, r⟩
  | _, _, i + 1, _, .cons _ t, e => by simp at e; obtain ⟨d, h1, h2⟩ := vals_get t e; exact ⟨d, by simpa using h1, h2⟩
theorem pdL_mem : ∀ {xs : List D} {d : PyData}, d ∈ pdL xs → ∃ x ∈ xs, d = x.pd
  | [], _, h => by simp [pdL] at h
  | x :: xs, d, h => by
    rw [pdL] at h
    rcases List.mem_cons.mp h with rfl | h
    · exact ⟨x, by simp, rfl⟩
    · obtain ⟨y, hy, e⟩ := pdL_mem h; exact ⟨y, by simp [hy], e⟩
theorem okL_mem {n : Nat} : ∀ {xs : List D} {d : D}, okL n xs = true → d ∈ xs → okD n d = true
  | [], _, _, h => by simp at h
  | x :: xs, d, h, hd => by
    rw [okL, Bool.and_eq_true] at h
    rcases List.mem_cons.mp hd with rfl | hd
    · exact h.1
    · exact okL_mem h.2 hd

section
variable {prog : Program} {w : World} {A : Around} {R : Result → Shared → Prop} {I : Addr} {fp wr : List Addr} {n : Nat} {P : Nat → Value → Prop} {St : Nat → Heap → Prop} {h0 : Heap}
theorem min_loopA (W : PySem.Walks prog w A.in1 I fp wr n P St) (bt : Nat → Nat → Bool) (hcmp : CmpAt prog w A.in1 .Lt h0 P bt) (S : Addr) (hSf : S ∉ fp) (hw0 : ∀ b ∈ wr, h0.get? b = none) (hS0 : h0.get? S = none) :
    ∀ (k j : Nat) (s : Shared) (vb : Value) (c : Nat), n - (j + 1) = k → j + 1 ≤ n → St (j + 1) s.heap → (∀ b o, h0.get? b = some o → s.heap.get? b = some o) → P (argBest bt j) vb →
    s.heap.get? S = some { cls := .type "list", dict := none, data := .seq #[vb, vb] c, slots := #[] } →
    (∀ v h' tk, P (argBest bt (n - 1)) v → (∀ b o, b ∉ wr → b ≠ S → s.heap.get? b = some o → h'.get? b = some o) → R (.ok (.ret v)) { s with heap := h', toks := tk }) →
    codeAny (model prog w) A (.builtin "min.loop" ⟨[.ref I, .none, .ref S], []⟩) R s := by
  have hSw : S ∉ wr := fun h => hSf (W.sub _ h)
  have hname : (toString "min" ++ toString ".loop" : String) = "min.loop" := by decide
  have nw : ∀ {b : Addr} {o : Obj}, h0.get? b = some o → b ∉ wr := fun e hm => by rw [hw0 _ hm] at e; cases e
  have nS : ∀ {b : Addr} {o : Obj}, h0.get? b = some o → b ≠ S := fun e hm => by rw [hm, hS0] at e; cases e
  intro k
  induction k with
  | zero =>
    intro j s vb c hk hj hst hk0 hPb hS hR
    have hin : j + 1 = n := by omega
    refine codeAny_builtin F.entry_min_loop ?_
    rw [Around.under_plainId F.plain_min_loop _]
    show wpAny _ A.in1 (seqItems? (.ref S) >>= _) _ _ s
    refine wpAny_bind (wpAny_seqItems hS rfl ?_)
    show wpAny _ A.in1 (tryCatch (pyNext (.ref I)) _ >>= _) _ _ s
    refine wpAny_bind (wpAny_tryCatch (W.done s _ _ (hin ▸ hst) fun h' tk hk' => ?_))
    have hS' := hk' S _ hSw hS
    show wpAny _ A.in1 (updateSeq S (fun _ => #[]) >>= _) _ _ _
    refine wpAny_bind ?_
    refine wpAny_updateSeq hS' rfl (wpAny_bind (wpAny_letGo (wpAny_pure ?_)))
    refine hR vb _ tk (by rw [← hin]; exact hPb) fun b o hbw hbS e => (Heap.get?_update_other _ _ (Ne.symm hbS)).trans (hk' b o hbw e)
  | succ k ih =>
    intro j s vb c hk hj hst hk0 hPb hS hR
    have hlt : j + 1 < n := by omega
    refine codeAny_builtin F.entry_min_loop ?_
    rw [Around.under_plainId F.plain_min_loop _]
    show wpAny _ A.in1 (seqItems? (.ref S) >>= _) _ _ s
    refine wpAny_bind (wpAny_seqItems hS rfl ?_)
    show wpAny _ A.in1 (tryCatch (pyNext (.ref I)) _ >>= _) _ _ s
    refine wpAny_bind (wpAny_tryCatch (W.item (j + 1) s _ _ hlt hst fun v h' tk hP hst' hk' => ?_))
    have hS' := hk' S _ hSw hS
    have hk1 : ∀ b o, h0.get? b = some o → h'.get? b = some o := fun b o e => hk' b o (nw e) (hk0 b o e)
    show wpAny _ A.in1 (tryCatch (holding [v, v] (richCompare .Lt v vb >>= _)) _ >>= _) _ _ _
    refine wpAny_bind (wpAny_tryCatch (wpAny_holding (wpAny_bind (hcmp (j + 1) (argBest bt j) v vb _ _ _ hP hPb hk1 ?_))))
    refine wpAny_bind (wpAny_holding (wpAny_truthy_bool ?_))
    refine wpAny_bind (wpAny_letGo (wpAny_pure ?_))
    cases hb : bt (j + 1) (argBest bt j) with
    | true =>
      simp only [if_true]
      refine wpAny_bind ?_
      refine wpAny_updateSeq hS' rfl (wpAny_bind (wpAny_letGo ?_))
      rw [hname]
      refine wpAny_pure ⟨plainId_quiet F.plain_min_loop _, ih (j + 1) _ v _ (by omega) hlt (W.frame _ _ _ hst' fun b hbf o e => ?_) (fun b o e => ?_) (by simp only [argBest, hb, if_true]; exact hP) (Heap.get?_update_self _ hS' rfl)
        fun v' h'' tk'' hP' hk'' => ?_⟩
      · exact (Heap.get?_update_other _ _ (fun h : S = b => hSf (by rw [h]; exact hbf))).trans e
      · exact (Heap.get?_update_other _ _ (Ne.symm (nS e))).trans (hk1 b o e)
      · exact hR v' h'' tk'' hP' fun b o hbw hbS e => hk'' b o hbw hbS ((Heap.get?_update_other _ _ (Ne.symm hbS)).trans (hk' b o hbw e))
    | false =>
      simp only [Bool.false_eq_true, if_false]
      refine wpAny_bind (wpAny_letGo ?_)
      rw [hname]
      refine wpAny_pure ⟨plainId_quiet F.plain_min_loop _, ih (j + 1) _ vb c (by omega) hlt hst' hk1 (by simp only [argBest, hb, Bool.false_eq_true, if_false]; exact hPb) hS' fun v' h'' tk'' hP' hk'' => ?_⟩
      exact hR v' h'' tk'' hP' fun b o hbw hbS e => hk'' b o hbw hbS (hk' b o hbw e)
theorem min_firstA (W : PySem.Walks prog w A.in1 I fp wr n P St) (bt : Nat → Nat → Bool) (hcmp : CmpAt prog w A.in1 .Lt h0 P bt) (S : Addr) (hSf : S ∉ fp) (hw0 : ∀ b ∈ wr, h0.get? b = none) (hS0 : h0.get? S = none) (hn : 0 < n) {s : Shared} {c : Nat} (hst : St 0 s.heap) (hk0 : ∀ b o, h0.get? b = some o → s.heap.get? b = some o)
    (hS : s.heap.get? S = some { cls := .type "list", dict := none, data := .seq #[] c, slots := #[] })
    (hR : ∀ v h' tk, P (argBest bt (n - 1)) v → (∀ b o, b ∉ wr → b ≠ S → s.heap.get? b = some o → h'.get? b = some o) → R (.ok (.ret v)) { s with heap := h', toks := tk }) :
    codeAny (model prog w) A (.builtin "min.loop" ⟨[.ref I, .none, .ref S], []⟩) R s := by
  have hSw : S ∉ wr := fun h => hSf (W.sub _ h)
  have hname : (toString "min" ++ toString ".loop" : String) = "min.loop" := by decide
  refine codeAny_builtin F.entry_min_loop ?_
  rw [Around.under_plainId F.plain_min_loop _]
  show wpAny _ A.in1 (seqItems? (.ref S) >>= _) _ _ s
  refine wpAny_bind (wpAny_seqItems hS rfl ?_)
  show wpAny _ A.in1 (tryCatch (pyNext (.ref I)) _ >>= _) _ _ s
  refine wpAny_bind (wpAny_tryCatch (W.item 0 s _ _ hn hst fun v h' tk hP hst' hk' => ?_))
  have hS' := hk' S _ hSw hS
  show wpAny _ A.in1 (updateSeq S (fun _ => #[v, v]) >>= _) _ _ _
  refine wpAny_bind ?_
  refine wpAny_updateSeq hS' rfl ?_
  rw [hname]
  refine wpAny_pure ⟨plainId_quiet F.plain_min_loop _, min_loopA W bt hcmp S hSf hw0 hS0 _ 0 _ v _ rfl hn (W.frame _ _ _ hst' fun b hbf o e => ?_) (fun b o e => ?_) hP (Heap.get?_update_self _ hS' rfl) fun v' h'' tk'' hP' hk'' => ?_⟩
  · exact (Heap.get?_update_other _ _ (fun h : S = b => hSf (by rw [h]; exact hbf))).trans e
  · exact (Heap.get?_update_other _ _ (fun h : S = b => by rw [← h, hS0] at e; cases e)).trans (hk' b o (fun hm => by rw [hw0 _ hm] at e; cases e) (hk0 b o e))
  · exact hR v' h'' tk'' hP' fun b o hbw hbS e => hk'' b o hbw hbS ((Heap.get?_update_other _ _ (Ne.symm hbS)).trans (hk' b o hbw e))
end
section
variable {prog : Program} {w : World} {A : Around} {E : Value → Shared → Prop} {s : Shared}
theorem min_walkA {x : Value} {Q : Value → Shared → Prop}
    (h : wpAny (model prog w) A.in1 (pyIter x) (fun it s₂ => ∃ I fp wr n P St bt, it = .ref I ∧ PySem.Walks prog w A.in1 I fp wr n P St ∧ St 0 s₂.heap ∧ (∀ b ∈ fp, b < s₂.heap.objs.size) ∧ 0 < n ∧ s.heap.objs.size ≤ s₂.heap.objs.size ∧ (∀ b o, s.heap.get? b = some o → s₂.heap.get? b = some o) ∧ (∀ b ∈ wr, s.heap.get? b = none) ∧ CmpAt prog w A.in1 .Lt s.heap P bt ∧
      ∀ v h' tk, P (argBest bt (n - 1)) v → (∀ b o, b ∉ wr → s₂.heap.get? b = some o → h'.get? b = some o) → Q v { s₂ with heap := h', toks := tk }) E s) :
    wpAny (model prog w) A (call (.builtin "min") [x]) Q E s := by
  have hname : (toString "min" ++ toString ".loop" : String) = "min.loop" := by decide
  refine call_function_tree F.kind_min F.plain_min F.entry_min (F.args_min1 _) ?_
  show wpAny _ A.in1 (Builtin.Builtins.bindParams "min" ["key", "default"] 0 ⟨[], []⟩ >>= _) _ _ s
  refine wpAny_bind (wpAny_of_eq (show Builtin.Builtins.bindParams "min" ["key", "default"] 0 ⟨[], []⟩ = pure [none, none] from rfl) ?_)
  refine wpAny_bind (wpAny_pure ?_)
  refine wpAny_bind (wpAny_mono h (fun it s₂ h₂ => ?_) fun _ _ e => e)
  obtain ⟨I, fp, wr, n, P, St, bt, rfl, W, hst, hfp, hn, hsz, hk0, hw0, hcmp, hQ⟩ := h₂
  refine wpAny_bind (wpAny_newObj_type ?_)
  have hSf : s₂.heap.objs.size ∉ fp := fun hm => Nat.lt_irrefl _ (hfp _ hm)
  have hS0 : s.heap.get? s₂.heap.objs.size = none := by
    cases e : s.heap.get? s₂.heap.objs.size with
    | none => rfl
    | some o => exact absurd (Heap.lt_size e) (Nat.not_lt.mpr hsz)
  rw [hname]
  refine wpAny_pure ⟨plainId_quiet F.plain_min_loop _, min_firstA W bt hcmp s₂.heap.objs.size hSf hw0 hS0 hn (W.frame _ _ _ hst fun b _ o e => Heap.get?_push_of_some _ e) (fun b o e => Heap.get?_push_of_some _ (hk0 b o e)) (Heap.get?_push_size _ rfl) fun v h' tk hP hk => ?_⟩
  exact hQ v h' tk hP fun b o hbw e => hk b o hbw (Nat.ne_of_lt (Heap.lt_size e)) (Heap.get?_push_of_some _ e)
end
/-- the places of a row that reads as data -/
theorem min_cmp {prog : Program} {w : World} {A : Around} {h0 : Heap} {its : List Value} {ds : List PyData} (hr : ∀ (i : Nat) (v : Value), its[i]? = some v → ∃ d as, ds[i]? = some d ∧ Reads h0 v d as) (hal : ∀ d ∈ ds, ∀ e ∈ ds, PySem.W.alike d e = true) (hn : ∀ d ∈ ds, d ≠ .none) (hu : ∀ d ∈ ds, A.units + d.depth < cLine) :
    CmpAt prog w A .Lt h0 (fun i v => its[i]? = some v) (fun i j => PySem.W.dataLt (ds.getD i .none) (ds.getD j .none)) := by
  intro i j vi vj s Q E hi hj hk h
  obtain ⟨d, as, e1, r1⟩ := hr i vi hi
  obtain ⟨e, bs, e2, r2⟩ := hr j vj hj
  have m1 := List.mem_of_getElem? e1
  have m2 := List.mem_of_getElem? e2
  have room : A.units + min d.depth e.depth < cLine := Nat.lt_of_le_of_lt (Nat.add_le_add_left (Nat.min_le_left _ _) _) (hu d m1)
  simp only [] at h
  rw [show ds.getD i .none = d by rw [List.getD_eq_getElem?_getD, e1]; rfl, show ds.getD j .none = e by rw [List.getD_eq_getElem?_getD, e2]; rfl] at h
  exact PySem.W.rcLt_alike d e A s vi vj as bs (PyProof.Rows.Reads.keeps hk r1) (PyProof.Rows.Reads.keeps hk r2) (hal d m1 e m2) (hn d m1) room prog w E Q h
def btmin (ds : List PyData) (i j : Nat) : Bool := PySem.W.dataLt (ds.getD i .none) (ds.getD j .none)
def minI0 (ds : List PyData) : Nat := argBest (btmin ds) (ds.length - 1)
section
variable {prog : Program} {w : World} {A : Around} {E : Value → Shared → Prop} {s : Shared}
theorem min_listA {l : Addr} {its : List Value} {ds : List PyData} {Q : Value → Shared → Prop} (hh : A.handled = none) (hl : s.heap.IsList l its.toArray ∨ s.heap.IsTuple l its.toArray) (hlen : ds.length = its.length) (hne : 0 < its.length) (hr : ∀ (i : Nat) (v : Value), its[i]? = some v → ∃ d as, ds[i]? = some d ∧ Reads s.heap v d as)
    (hal : ∀ d ∈ ds, ∀ e ∈ ds, PySem.W.alike d e = true) (hn : ∀ d ∈ ds, d ≠ .none) (hu : ∀ d ∈ ds, A.units + 1 + d.depth < cLine)
    (h : ∀ v h' tk, its[minI0 ds]? = some v → (∀ b o, s.heap.get? b = some o → h'.get? b = some o) → Q v { s with heap := h', toks := tk }) : wpAny (model prog w) A (call (.builtin "min") [.ref l]) Q E s := by
  have hc := min_cmp (prog := prog) (w := w) (A := A.in1) hr hal hn hu
  have hlt : l < s.heap.objs.size := by rcases hl with ⟨_, e, _⟩ | ⟨_, e, _⟩ <;> exact Heap.lt_size e
  have fpb : ∀ (o : Obj), ∀ b ∈ [s.heap.objs.size, l], b < (s.heap.push o).objs.size := fun o b hb => by
    rw [Heap.size_push]
    rcases List.mem_cons.mp hb with rfl | hb
    · exact Nat.lt_succ_self _
    · rcases List.mem_cons.mp hb with rfl | hb
      · exact Nat.lt_succ_of_lt hlt
      · cases hb
  have wrn : ∀ b ∈ [s.heap.objs.size], s.heap.get? b = none := fun b hb => by
    simp at hb; subst hb
    cases e : s.heap.get? s.heap.objs.size with
    | none => rfl
    | some o => exact absurd (Heap.lt_size e) (Nat.lt_irrefl _)
  have old : ∀ {o : Obj} {h' : Heap}, (∀ b u, b ∉ [s.heap.objs.size] → (s.heap.push o).get? b = some u → h'.get? b = some u) → ∀ b u, s.heap.get? b = some u → h'.get? b = some u := fun hk b u e => by
    refine hk b u (fun hm => ?_) (Heap.get?_push_of_some _ e)
    rcases List.mem_cons.mp hm with e1 | hm
    · exact absurd (e1 ▸ Heap.lt_size e) (Nat.lt_irrefl _)
    · cases hm
  refine min_walkA ?_
  rcases hl with hl | hl
  · refine wpAny_pyIter_list hl ?_
    refine ⟨_, _, _, _, _, _, _, rfl, PySem.Walks.list (A := A.in1) hh _ l (Nat.ne_of_lt hlt) its.toArray, ⟨⟨_, Heap.get?_push_size _ rfl, rfl, rfl⟩, hl.push _⟩, fpb _, by simpa using hne, by rw [Heap.size_push]; omega, fun b o e => Heap.get?_push_of_some _ e, wrn, (by simpa using hc), fun v h' tk hP hk => ?_⟩
    refine h v h' tk ?_ (old hk)
    simp only [List.size_toArray, ← hlen, List.getElem?_toArray] at hP
    exact hP
  · refine wpAny_pyIter_tuple hl ?_
    refine ⟨_, _, _, _, _, _, _, rfl, PySem.Walks.tuple (A := A.in1) hh _ l (Nat.ne_of_lt hlt) its.toArray, ⟨⟨_, Heap.get?_push_size _ rfl, rfl, rfl⟩, hl.push _⟩, fpb _, by simpa using hne, by rw [Heap.size_push]; omega, fun b o e => Heap.get?_push_of_some _ e, wrn, (by simpa using hc), fun v h' tk hP hk => ?_⟩
    refine h v h' tk ?_ (old hk)
    simp only [List.size_toArray, ← hlen, List.getElem?_toArray] at hP
    exact hP
end
section
variable {X : Cx}
def rminD (K : PySem.W.Frag) : List V → Hp → VK → Prop := fun vs H Q => ∃ (a : Addr) (xs : List V) (ds : List PyData), vs = [V.ref a] ∧ (SqL K H a xs ∨ SqT K H a xs) ∧ DpAll K H xs ds ∧ 0 < xs.length ∧ (∀ d ∈ ds, ∀ e ∈ ds, PySem.W.alike d e = true) ∧ (∀ d ∈ ds, d ≠ .none) ∧ (∀ d ∈ ds, d.depth ≤ 60) ∧
  ∀ v, xs[minI0 ds]? = some v → Q v H
theorem cr_minD (hc : X.calm = true) (hu : X.A.units + 64 < cLine) : CallR X (.builtin "min") (rminD X.K) := by
  intro pins s σ H vs us Q I r h
  obtain ⟨a, xs, ds, rfl, hs, hd, hne, hal, hn, hdep, q⟩ := h
  rw [Vals.ref1 r]
  have key : ∀ its : List Value, Vals xs its → (s.heap.IsList a its.toArray ∨ s.heap.IsTuple a its.toArray) → wpAny (model X.prog X.w) X.A (call (.builtin "min") [.ref a]) (EP X pins σ Q) X.xe s := fun its rv hl => by
    have hl1 := rv.length
    have hl2 := dpAll_len hd
    refine min_listA (I.ok.hd hc) hl (by omega) (by omega) (fun i v hv => ?_) hal hn (fun d hd => by have := hdep d hd; omega) fun v h' tk hv hk => ?_
    · obtain ⟨x, hx, rx⟩ := vals_get rv hv
      obtain ⟨d, e1, e2⟩ := dpAll_get hd hx
      obtain ⟨as, r2⟩ := Dp.reads I d x v e2 rx
      exact ⟨d, as, e1, r2⟩
    · obtain ⟨x, hx, rx⟩ := vals_get rv hv
      exact ⟨x, H, I.kept hk, rx, q x hx⟩
  rcases hs with hs | hs
  · obtain ⟨its, rv, hl, _⟩ := I.list hs
    exact key _ rv (.inl hl.isList)
  · obtain ⟨its, rv, hl, _⟩ := I.tuple hs
    exact key _ rv (.inr hl)
end
/-- the plain function -/
noncomputable def min1F (x : Out) (m : Mem) : Option (Out × Mem) := (seqOf x m).bind fun xs => open Classical in if okL 60 xs = true ∧ xs ≠ [] ∧ (∀ d ∈ pdL xs, ∀ e ∈ pdL xs, PySem.W.alike d e = true) ∧ (∀ d ∈ pdL xs, d ≠ .none) then (xs[minI0 (pdL xs)]?).map fun d => (.v d, m) else none
theorem min1U {K : PySem.W.Frag} : R1S K (fun v H Q => rminD K [v] H Q) min1F := by
  intro ι H H0 m x z vx m' Q rm bd rx hf k
  obtain ⟨xs, h1, hf⟩ := bind_some hf
  split at hf
  · rename_i hc
    obtain ⟨d, e1, e2⟩ := Option.map_eq_some_iff.mp hf
    cases e2
    obtain ⟨a, vs, rfl, hs, r⟩ := seq_at rm rx h1
    refine ⟨a, vs, pdL xs, rfl, hs, RVs.dp r hc.1, by rw [← r.length]; exact List.length_pos_iff.mpr hc.2.1, hc.2.2.1, hc.2.2.2, fun d hd => ?_, fun v hv => ?_⟩
    · obtain ⟨d', hd', rfl⟩ := pdL_mem hd
      exact (pd_lay d' 60 (okL_mem hc.1 hd')).2
    · obtain ⟨v', e3, rv⟩ := r.get e1
      rw [hv] at e3; cases e3
      exact k _ ι H (Le.refl _ _) rm rv
  · cases hf
section
variable {X : Cx} {a : Expr} {p pos : Pos} {fa : E} {kk : Nat}
theorem min1_ (hr : Room kk X.A) (hm : X.mg "min" = none) (ha : SE X a fa) (hc : X.calm = true := by rfl) (hg : Gl X "min" := by rfl) (hs : starEach [a] X.env = (false, eval a X.env) :: starEach [] X.env := by rfl) (hpl : (backTo pos (starEach [] X.env)).any (·.1) = false := by rfl) : SE X (.Call (.Name "min" p) [a] [] pos) (eUn min1F fa) :=
  se_b1 (pe_callB (cr_minD hc hr.units) hg hm (by decide +kernel) (pa1 ha hs) (by decide) (by decide) hs hpl) min1U
end

section
variable {prog : Program} {w : World} {A : Around} {R : Result → Shared → Prop} {I : Addr} {fp wr : List Addr} {n : Nat} {P : Nat → Value → Prop} {St : Nat → Heap → Prop} {h0 : Heap}
theorem max_loopA (W : PySem.Walks prog w A.in1 I fp wr n P St) (bt : Nat → Nat → Bool) (hcmp : CmpAt prog w A.in1 .Gt h0 P bt) (S : Addr) (hSf : S ∉ fp) (hw0 : ∀ b ∈ wr, h0.get? b = none) (hS0 : h0.get? S = none) :
    ∀ (k j : Nat) (s : Shared) (vb : Value) (c : Nat), n - (j + 1) = k → j + 1 ≤ n → St (j + 1) s.heap → (∀ b o, h0.get? b = some o → s.heap.get? b = some o) → P (argBest bt j) vb →
    s.heap.get? S = some { cls := .type "list", dict := none, data := .seq #[vb, vb] c, slots := #[] } →
    (∀ v h' tk, P (argBest bt (n - 1)) v → (∀ b o, b ∉ wr → b ≠ S → s.heap.get? b = some o → h'.get? b = some o) → R (.ok (.ret v)) { s with heap := h', toks := tk }) →
    codeAny (model prog w) A (.builtin "max.loop" ⟨[.ref I, .none, .ref S], []⟩) R s := by
  have hSw : S ∉ wr := fun h => hSf (W.sub _ h)
  have hname : (toString "max" ++ toString ".loop" : String) = "max.loop" := by decide
  have nw : ∀ {b : Addr} {o : Obj}, h0.get? b = some o → b ∉ wr := fun e hm => by rw [hw0 _ hm] at e; cases e
  have nS : ∀ {b : Addr} {o : Obj}, h0.get? b = some o → b ≠ S := fun e hm => by rw [hm, hS0] at e; cases e
  intro k
  induction k with
  | zero =>
    intro j s vb c hk hj hst hk0 hPb hS hR
    have hin : j + 1 = n := by omega
    refine codeAny_builtin F.entry_max_loop ?_
    rw [Around.under_plainId F.plain_max_loop _]
    show wpAny _ A.in1 (seqItems? (.ref S) >>= _) _ _ s
    refine wpAny_bind (wpAny_seqItems hS rfl ?_)
    show wpAny _ A.in1 (tryCatch (pyNext (.ref I)) _ >>= _) _ _ s
    refine wpAny_bind (wpAny_tryCatch (W.done s _ _ (hin ▸ hst) fun h' tk hk' => ?_))
    have hS' := hk' S _ hSw hS
    show wpAny _ A.in1 (updateSeq S (fun _ => #[]) >>= _) _ _ _
    refine wpAny_bind ?_
    refine wpAny_updateSeq hS' rfl (wpAny_bind (wpAny_letGo (wpAny_pure ?_)))
    refine hR vb _ tk (by rw [← hin]; exact hPb) fun b o hbw hbS e => (Heap.get?_update_other _ _ (Ne.symm hbS)).trans (hk' b o hbw e)
  | succ k ih =>
    intro j s vb c hk hj hst hk0 hPb hS hR
    have hlt : j + 1 < n := by omega
    refine codeAny_builtin F.entry_max_loop ?_
    rw [Around.under_plainId F.plain_max_loop _]
    show wpAny _ A.in1 (seqItems? (.ref S) >>= _) _ _ s
    refine wpAny_bind (wpAny_seqItems hS rfl ?_)
    show wpAny _ A.in1 (tryCatch (pyNext (.ref I)) _ >>= _) _ _ s
    refine wpAny_bind (wpAny_tryCatch (W.item (j + 1) s _ _ hlt hst fun v h' tk hP hst' hk' => ?_))
    have hS' := hk' S _ hSw hS
    have hk1 : ∀ b o, h0.get? b = some o → h'.get? b = some o := fun b o e => hk' b o (nw e) (hk0 b o e)
    show wpAny _ A.in1 (tryCatch (holding [v, v] (richCompare .Gt v vb >>= _)) _ >>= _) _ _ _
    refine wpAny_bind (wpAny_tryCatch (wpAny_holding (wpAny_bind (hcmp (j + 1) (argBest bt j) v vb _ _ _ hP hPb hk1 ?_))))
    refine wpAny_bind (wpAny_holding (wpAny_truthy_bool ?_))
    refine wpAny_bind (wpAny_letGo (wpAny_pure ?_))
    cases hb : bt (j + 1) (argBest bt j) with
    | true =>
      simp only [if_true]
      refine wpAny_bind ?_
      refine wpAny_updateSeq hS' rfl (wpAny_bind (wpAny_letGo ?_))
      rw [hname]
      refine wpAny_pure ⟨plainId_quiet F.plain_max_loop _, ih (j + 1) _ v _ (by omega) hlt (W.frame _ _ _ hst' fun b hbf o e => ?_) (fun b o e => ?_) (by simp only [argBest, hb, if_true]; exact hP) (Heap.get?_update_self _ hS' rfl)
        fun v' h'' tk'' hP' hk'' => ?_⟩
      · exact (Heap.get?_update_other _ _ (fun h : S = b => hSf (by rw [h]; exact hbf))).trans e
      · exact (Heap.get?_update_other _ _ (Ne.symm (nS e))).trans (hk1 b o e)
      · exact hR v' h'' tk'' hP' fun b o hbw hbS e => hk'' b o hbw hbS ((Heap.get?_update_other _ _ (Ne.symm hbS)).trans (hk' b o hbw e))
    | false =>
      simp only [Bool.false_eq_true, if_false]
      refine wpAny_bind (wpAny_letGo ?_)
      rw [hname]
      refine wpAny_pure ⟨plainId_quiet F.plain_max_loop _, ih (j + 1) _ vb c (by omega) hlt hst' hk1 (by simp only [argBest, hb, Bool.false_eq_true, if_false]; exact hPb) hS' fun v' h'' tk'' hP' hk'' => ?_⟩
      exact hR v' h'' tk'' hP' fun b o hbw hbS e => hk'' b o hbw hbS (hk' b o hbw e)
theorem max_firstA (W : PySem.Walks prog w A.in1 I fp wr n P St) (bt : Nat → Nat → Bool) (hcmp : CmpAt prog w A.in1 .Gt h0 P bt) (S : Addr) (hSf : S ∉ fp) (hw0 : ∀ b ∈ wr, h0.get? b = none) (hS0 : h0.get? S = none) (hn : 0 < n) {s : Shared} {c : Nat} (hst : St 0 s.heap) (hk0 : ∀ b o, h0.get? b = some o → s.heap.get? b = some o)
    (hS : s.heap.get? S = some { cls := .type "list", dict := none, data := .seq #[] c, slots := #[] })
    (hR : ∀ v h' tk, P (argBest bt (n - 1)) v → (∀ b o, b ∉ wr → b ≠ S → s.heap.get? b = some o → h'.get? b = some o) → R (.ok (.ret v)) { s with heap := h', toks := tk }) :
    codeAny (model prog w) A (.builtin "max.loop" ⟨[.ref I, .none, .ref S], []⟩) R s := by
  have hSw : S ∉ wr := fun h => hSf (W.sub _ h)
  have hname : (toString "max" ++ toString ".loop" : String) = "max.loop" := by decide
  refine codeAny_builtin F.entry_max_loop ?_
  rw [Around.under_plainId F.plain_max_loop _]
  show wpAny _ A.in1 (seqItems? (.ref S) >>= _) _ _ s
  refine wpAny_bind (wpAny_seqItems hS rfl ?_)
  show wpAny _ A.in1 (tryCatch (pyNext (.ref I)) _ >>= _) _ _ s
  refine wpAny_bind (wpAny_tryCatch (W.item 0 s _ _ hn hst fun v h' tk hP hst' hk' => ?_))
  have hS' := hk' S _ hSw hS
  show wpAny _ A.in1 (updateSeq S (fun _ => #[v, v]) >>= _) _ _ _
  refine wpAny_bind ?_
  refine wpAny_updateSeq hS' rfl ?_
  rw [hname]
  refine wpAny_pure ⟨plainId_quiet F.plain_max_loop _, max_loopA W bt hcmp S hSf hw0 hS0 _ 0 _ v _ rfl hn (W.frame _ _ _ hst' fun b hbf o e => ?_) (fun b o e => ?_) hP (Heap.get?_update_self _ hS' rfl) fun v' h'' tk'' hP' hk'' => ?_⟩
  · exact (Heap.get?_update_other _ _ (fun h : S = b => hSf (by rw [h]; exact hbf))).trans e
  · exact (Heap.get?_update_other _ _ (fun h : S = b => by rw [← h, hS0] at e; cases e)).trans (hk' b o (fun hm => by rw [hw0 _ hm] at e; cases e) (hk0 b o e))
  · exact hR v' h'' tk'' hP' fun b o hbw hbS e => hk'' b o hbw hbS ((Heap.get?_update_other _ _ (Ne.symm hbS)).trans (hk' b o hbw e))
end
section
variable {prog : Program} {w : World} {A : Around} {E : Value → Shared → Prop} {s : Shared}
theorem max_walkA {x : Value} {Q : Value → Shared → Prop}
    (h : wpAny (model prog w) A.in1 (pyIter x) (fun it s₂ => ∃ I fp wr n P St bt, it = .ref I ∧ PySem.Walks prog w A.in1 I fp wr n P St ∧ St 0 s₂.heap ∧ (∀ b ∈ fp, b < s₂.heap.objs.size) ∧ 0 < n ∧ s.heap.objs.size ≤ s₂.heap.objs.size ∧ (∀ b o, s.heap.get? b = some o → s₂.heap.get? b = some o) ∧ (∀ b ∈ wr, s.heap.get? b = none) ∧ CmpAt prog w A.in1 .Gt s.heap P bt ∧
      ∀ v h' tk, P (argBest bt (n - 1)) v → (∀ b o, b ∉ wr → s₂.heap.get? b = some o → h'.get? b = some o) → Q v { s₂ with heap := h', toks := tk }) E s) :
    wpAny (model prog w) A (call (.builtin "max") [x]) Q E s := by
  have hname : (toString "max" ++ toString ".loop" : String) = "max.loop" := by decide
  refine call_function_tree F.kind_max F.plain_max F.entry_max (F.args_max1 _) ?_
  show wpAny _ A.in1 (Builtin.Builtins.bindParams "max" ["key", "default"] 0 ⟨[], []⟩ >>= _) _ _ s
  refine wpAny_bind (wpAny_of_eq (show Builtin.Builtins.bindParams "max" ["key", "default"] 0 ⟨[], []⟩ = pure [none, none] from rfl) ?_)
  refine wpAny_bind (wpAny_pure ?_)
  refine wpAny_bind (wpAny_mono h (fun it s₂ h₂ => ?_) fun _ _ e => e)
  obtain ⟨I, fp, wr, n, P, St, bt, rfl, W, hst, hfp, hn, hsz, hk0, hw0, hcmp, hQ⟩ := h₂
  refine wpAny_bind (wpAny_newObj_type ?_)
  have hSf : s₂.heap.objs.size ∉ fp := fun hm => Nat.lt_irrefl _ (hfp _ hm)
  have hS0 : s.heap.get? s₂.heap.objs.size = none := by
    cases e : s.heap.get? s₂.heap.objs.size with
    | none => rfl
    | some o => exact absurd (Heap.lt_size e) (Nat.not_lt.mpr hsz)
  rw [hname]
  refine wpAny_pure ⟨plainId_quiet F.plain_max_loop _, max_firstA W bt hcmp s₂.heap.objs.size hSf hw0 hS0 hn (W.frame _ _ _ hst fun b _ o e => Heap.get?_push_of_some _ e) (fun b o e => Heap.get?_push_of_some _ (hk0 b o e)) (Heap.get?_push_size _ rfl) fun v h' tk hP hk => ?_⟩
  exact hQ v h' tk hP fun b o hbw e => hk b o hbw (Nat.ne_of_lt (Heap.lt_size e)) (Heap.get?_push_of_some _ e)
end
/-- the places of a row that reads as data -/
theorem max_cmp {prog : Program} {w : World} {A : Around} {h0 : Heap} {its : List Value} {ds : List PyData} (hr : ∀ (i : Nat) (v : Value), its[i]? = some v → ∃ d as, ds[i]? = some d ∧ Reads h0 v d as) (hal : ∀ d ∈ ds, ∀ e ∈ ds, PySem.W.alike d e = true) (hn : ∀ d ∈ ds, d ≠ .none) (hu : ∀ d ∈ ds, A.units + d.depth < cLine) :
    CmpAt prog w A .Gt h0 (fun i v => its[i]? = some v) (fun i j => PySem.W.dataLt (ds.getD j .none) (ds.getD i .none)) := by
  intro i j vi vj s Q E hi hj hk h
  obtain ⟨d, as, e1, r1⟩ := hr i vi hi
  obtain ⟨e, bs, e2, r2⟩ := hr j vj hj
  have m1 := List.mem_of_getElem? e1
  have m2 := List.mem_of_getElem? e2
  have room : A.units + min d.depth e.depth < cLine := Nat.lt_of_le_of_lt (Nat.add_le_add_left (Nat.min_le_left _ _) _) (hu d m1)
  simp only [] at h
  rw [show ds.getD i .none = d by rw [List.getD_eq_getElem?_getD, e1]; rfl, show ds.getD j .none = e by rw [List.getD_eq_getElem?_getD, e2]; rfl] at h
  exact PySem.W.rcGt_alike d e A s vi vj as bs (PyProof.Rows.Reads.keeps hk r1) (PyProof.Rows.Reads.keeps hk r2) (hal d m1 e m2) (hn d m1) room prog w E Q h
def btmax (ds : List PyData) (i j : Nat) : Bool := PySem.W.dataLt (ds.getD j .none) (ds.getD i .none)
def maxI0 (ds : List PyData) : Nat := argBest (btmax ds) (ds.length - 1)
section
variable {prog : Program} {w : World} {A : Around} {E : Value → Shared → Prop} {s : Shared}
theorem max_listA {l : Addr} {its : List Value} {ds : List PyData} {Q : Value → Shared → Prop} (hh : A.handled = none) (hl : s.heap.IsList l its.toArray ∨ s.heap.IsTuple l its.toArray) (hlen : ds.length = its.length) (hne : 0 < its.length) (hr : ∀ (i : Nat) (v : Value), its[i]? = some v → ∃ d as, ds[i]? = some d ∧ Reads s.heap v d as)
    (hal : ∀ d ∈ ds, ∀ e ∈ ds, PySem.W.alike d e = true) (hn : ∀ d ∈ ds, d ≠ .none) (hu : ∀ d ∈ ds, A.units + 1 + d.depth < cLine)
    (h : ∀ v h' tk, its[maxI0 ds]? = some v → (∀ b o, s.heap.get? b = some o → h'.get? b = some o) → Q v { s with heap := h', toks := tk }) : wpAny (model prog w) A (call (.builtin "max") [.ref l]) Q E s := by
  have hc := max_cmp (prog := prog) (w := w) (A := A.in1) hr hal hn hu
  have hlt : l < s.heap.objs.size := by rcases hl with ⟨_, e, _⟩ | ⟨_, e, _⟩ <;> exact Heap.lt_size e
  have fpb : ∀ (o : Obj), ∀ b ∈ [s.heap.objs.size, l], b < (s.heap.push o).objs.size := fun o b hb => by
    rw [Heap.size_push]
    rcases List.mem_cons.mp hb with rfl | hb
    · exact Nat.lt_succ_self _
    · rcases List.mem_cons.mp hb with rfl | hb
      · exact Nat.lt_succ_of_lt hlt
      · cases hb
  have wrn : ∀ b ∈ [s.heap.objs.size], s.heap.get? b = none := fun b hb => by
    simp at hb; subst hb
    cases e : s.heap.get? s.heap.objs.size with
    | none => rfl
    | some o => exact absurd (Heap.lt_size e) (Nat.lt_irrefl _)
  have old : ∀ {o : Obj} {h' : Heap}, (∀ b u, b ∉ [s.heap.objs.size] → (s.heap.push o).get? b = some u → h'.get? b = some u) → ∀ b u, s.heap.get? b = some u → h'.get? b = some u := fun hk b u e => by
    refine hk b u (fun hm => ?_) (Heap.get?_push_of_some _ e)
    rcases List.mem_cons.mp hm with e1 | hm
    · exact absurd (e1 ▸ Heap.lt_size e) (Nat.lt_irrefl _)
    · cases hm
  refine max_walkA ?_
  rcases hl with hl | hl
  · refine wpAny_pyIter_list hl ?_
    refine ⟨_, _, _, _, _, _, _, rfl, PySem.Walks.list (A := A.in1) hh _ l (Nat.ne_of_lt hlt) its.toArray, ⟨⟨_, Heap.get?_push_size _ rfl, rfl, rfl⟩, hl.push _⟩, fpb _, by simpa using hne, by rw [Heap.size_push]; omega, fun b o e => Heap.get?_push_of_some _ e, wrn, (by simpa using hc), fun v h' tk hP hk => ?_⟩
    refine h v h' tk ?_ (old hk)
    simp only [List.size_toArray, ← hlen, List.getElem?_toArray] at hP
    exact hP
  · refine wpAny_pyIter_tuple hl ?_
    refine ⟨_, _, _, _, _, _, _, rfl, PySem.Walks.tuple (A := A.in1) hh _ l (Nat.ne_of_lt hlt) its.toArray, ⟨⟨_, Heap.get?_push_size _ rfl, rfl, rfl⟩, hl.push _⟩, fpb _, by simpa using hne, by rw [Heap.size_push]; omega, fun b o e => Heap.get?_push_of_some _ e, wrn, (by simpa using hc), fun v h' tk hP hk => ?_⟩
    refine h v h' tk ?_ (old hk)
    simp only [List.size_toArray, ← hlen, List.getElem?_toArray] at hP
    exact hP
end
section
variable {X : Cx}
def rmaxD (K : PySem.W.Frag) : List V → Hp → VK → Prop := fun vs H Q => ∃ (a : Addr) (xs : List V) (ds : List PyData), vs = [V.ref a] ∧ (SqL K H a xs ∨ SqT K H a xs) ∧ DpAll K H xs ds ∧ 0 < xs.length ∧ (∀ d ∈ ds, ∀ e ∈ ds, PySem.W.alike d e = true) ∧ (∀ d ∈ ds, d ≠ .none) ∧ (∀ d ∈ ds, d.depth ≤ 60) ∧
  ∀ v, xs[maxI0 ds]? = some v → Q v H
theorem cr_maxD (hc : X.calm = true) (hu : X.A.units + 64 < cLine) : CallR X (.builtin "max") (rmaxD X.K) := by
  intro pins s σ H vs us Q I r h
  obtain ⟨a, xs, ds, rfl, hs, hd, hne, hal, hn, hdep, q⟩ := h
  rw [Vals.ref1 r]
  have key : ∀ its : List Value, Vals xs its → (s.heap.IsList a its.toArray ∨ s.heap.IsTuple a its.toArray) → wpAny (model X.prog X.w) X.A (call (.builtin "max") [.ref a]) (EP X pins σ Q) X.xe s := fun its rv hl => by
    have hl1 := rv.length
    have hl2 := dpAll_len hd
    refine max_listA (I.ok.hd hc) hl (by omega) (by omega) (fun i v hv => ?_) hal hn (fun d hd => by have := hdep d hd; omega) fun v h' tk hv hk => ?_
    · obtain ⟨x, hx, rx⟩ := vals_get rv hv
      obtain ⟨d, e1, e2⟩ := dpAll_get hd hx
      obtain ⟨as, r2⟩ := Dp.reads I d x v e2 rx
      exact ⟨d, as, e1, r2⟩
    · obtain ⟨x, hx, rx⟩ := vals_get rv hv
      exact ⟨x, H, I.kept hk, rx, q x hx⟩
  rcases hs with hs | hs
  · obtain ⟨its, rv, hl, _⟩ := I.list hs
    exact key _ rv (.inl hl.isList)
  · obtain ⟨its, rv, hl, _⟩ := I.tuple hs
    exact key _ rv (.inr hl)
end
/-- the plain function -/
noncomputable def max1F (x : Out) (m : Mem) : Option (Out × Mem) := (seqOf x m).bind fun xs => open Classical in if okL 60 xs = true ∧ xs ≠ [] ∧ (∀ d ∈ pdL xs, ∀ e ∈ pdL xs, PySem.W.alike d e = true) ∧ (∀ d ∈ pdL xs, d ≠ .none) then (xs[maxI0 (pdL xs)]?).map fun d => (.v d, m) else none
theorem max1U {K : PySem.W.Frag} : R1S K (fun v H Q => rmaxD K [v] H Q) max1F := by
  intro ι H H0 m x z vx m' Q rm bd rx hf k
  obtain ⟨xs, h1, hf⟩ := bind_some hf
  split at hf
  · rename_i hc
    obtain ⟨d, e1, e2⟩ := Option.map_eq_some_iff.mp hf
    cases e2
    obtain ⟨a, vs, rfl, hs, r⟩ := seq_at rm rx h1
    refine ⟨a, vs, pdL xs, rfl, hs, RVs.dp r hc.1, by rw [← r.length]; exact List.length_pos_iff.mpr hc.2.1, hc.2.2.1, hc.2.2.2, fun d hd => ?_, fun v hv => ?_⟩
    · obtain ⟨d', hd', rfl⟩ := pdL_mem hd
      exact (pd_lay d' 60 (okL_mem hc.1 hd')).2
    · obtain ⟨v', e3, rv⟩ := r.get e1
      rw [hv] at e3; cases e3
      exact k _ ι H (Le.refl _ _) rm rv
  · cases hf
section
variable {X : Cx} {a : Expr} {p pos : Pos} {fa : E} {kk : Nat}
theorem max1_ (hr : Room kk X.A) (hm : X.mg "max" = none) (ha : SE X a fa) (hc : X.calm = true := by rfl) (hg : Gl X "max" := by rfl) (hs : starEach [a] X.env = (false, eval a X.env) :: starEach [] X.env := by rfl) (hpl : (backTo pos (starEach [] X.env)).any (·.1) = false := by rfl) : SE X (.Call (.Name "max" p) [a] [] pos) (eUn max1F fa) :=
  se_b1 (pe_callB (cr_maxD hc hr.units) hg hm (by decide +kernel) (pa1 ha hs) (by decide) (by decide) hs hpl) max1U
end
end Q
namespace Q
open PySem L2
/-! ### reckoning with the plain functions -/
theorem okM_self (m : Mem) : okM m m := fun i b _ h => .inl h
theorem okM_app (m e : Mem) : okM m (m ++ e) := fun i b hi h => .inl (by rw [List.getElem?_append_left hi] at h; exact h)
theorem shut_v {m e : Mem} {d : D} (h : d.lo m.length) : shut m (.v d) (m ++ e) = (.v d, m) := by
  unfold shut
  rw [if_pos (okM_app m e)]
  simp [h]
theorem shut_s {m : Mem} {d : D} (h : d.lo m.length) : shut m (.v d) m = (.v d, m) := by
  have := shut_v (m := m) (e := []) h
  rw [List.append_nil] at this
  exact this
theorem shut_o {m e : Mem} {b : Ob} (h : b.lo m.length) : shut m (.o b) (m ++ e) = (.o b, m) := by
  unfold shut
  rw [if_pos (okM_app m e)]
  simp [h]
theorem shut_os {m : Mem} {b : Ob} (h : b.lo m.length) : shut m (.o b) m = (.o b, m) := by
  have := shut_o (m := m) (e := []) h
  rw [List.append_nil] at this
  exact this
@[simp] theorem lo_non (n : Nat) : D.lo n .non = True := by rw [D.lo] <;> simp
@[simp] theorem lo_bl (n : Nat) (b : Bool) : D.lo n (.bl b) = True := by rw [D.lo] <;> simp
@[simp] theorem lo_int (n : Nat) (b : Int) : D.lo n (.int b) = True := by rw [D.lo] <;> simp
@[simp] theorem lo_str (n : Nat) (b : Str) : D.lo n (.str b) = True := by rw [D.lo] <;> simp
@[simp] theorem lo_tup (n : Nat) (b : List D) : D.lo n (.tup b) = loL n b := by rw [D.lo]
@[simp] theorem lo_par (n : Nat) (b : List D) : D.lo n (.par b) = loL n b := by rw [D.lo]
@[simp] theorem lo_fl (n : Nat) (b : List D) : D.lo n (.fl b) = loL n b := by rw [D.lo]
@[simp] theorem lo_ref (n k : Nat) : D.lo n (.ref k) = (k < n) := by rw [D.lo]
@[simp] theorem loL_nil (n : Nat) : loL n [] = True := by rw [loL]
@[simp] theorem loL_cons (n : Nat) (d : D) (ds : List D) : loL n (d :: ds) = (d.lo n ∧ loL n ds) := by rw [loL]
theorem loL_iff (n : Nat) : ∀ ds : List D, loL n ds ↔ ∀ d ∈ ds, d.lo n
  | [] => by simp
  | d :: ds => by simp [loL_iff n ds]
/-! typed data -/
abbrev nats (w : List Nat) : List D := w.map fun (r : Nat) => D.int (r : Int)
def tN (w : List Nat) : D := .tup (nats w)
def tM (m : List (List Nat)) : D := .tup (m.map tN)
theorem loL_nats (n : Nat) (w : List Nat) : loL n (nats w) := by rw [loL_iff]; intro d hd; simp at hd; obtain ⟨a, _, rfl⟩ := hd; simp
@[simp] theorem lo_tN (n : Nat) (w : List Nat) : D.lo n (tN w) = True := by unfold tN; simp [loL_nats]
@[simp] theorem lo_tM (n : Nat) (w : List (List Nat)) : D.lo n (tM w) = True := by unfold tM; simp [loL_iff]
theorem atI_nats (w : List Nat) (i : Nat) (h : i < w.length) : atI (nats w) (i : Int) = some (.int (w[i] : Nat)) := by
  unfold atI ixN
  simp [h]
theorem atI_get {α : Type} (w : List α) (i : Nat) (h : i < w.length) : atI w (i : Int) = some w[i] := by
  unfold atI ixN
  simp [h]
/-- the machine: rooms, letters -/
structure Mach (m : List (List Nat)) (l : Nat) : Prop where
  len : ∀ row ∈ m, row.length = l
  lt : ∀ row ∈ m, ∀ r ∈ row, r < m.length
def stp (m : List (List Nat)) (r a : Nat) : Nat := (m.getD r []).getD a 0
def ledN (m : List (List Nat)) (r : Nat) (w : List Nat) : Nat := w.foldl (stp m) r
theorem Mach.row {m : List (List Nat)} {l : Nat} (h : Mach m l) {r : Nat} (hr : r < m.length) : m[r].length = l := h.len _ (List.getElem_mem hr)
theorem stp_eq {m : List (List Nat)} {l : Nat} (h : Mach m l) {r a : Nat} (hr : r < m.length) (ha : a < l) : stp m r a = (m[r])[a]'(by rw [h.row hr]; exact ha) := by
  unfold stp
  have h2 : a < m[r].length := by rw [h.row hr]; exact ha
  simp [List.getD, List.getElem?_eq_getElem hr, List.getElem?_eq_getElem h2]
theorem stp_lt {m : List (List Nat)} {l : Nat} (h : Mach m l) {r a : Nat} (hr : r < m.length) (ha : a < l) : stp m r a < m.length := by
  rw [stp_eq h hr ha]
  exact h.lt _ (List.getElem_mem hr) _ (List.getElem_mem _)
theorem ledN_lt {m : List (List Nat)} {l : Nat} (h : Mach m l) : ∀ {w : List Nat} {r : Nat}, r < m.length → (∀ a ∈ w, a < l) → ledN m r w < m.length
  | [], r, hr, _ => hr
  | a :: w, r, hr, hw => ledN_lt h (w := w) (stp_lt h hr (hw a (by simp))) fun b hb => hw b (by simp [hb])
@[simp] theorem ledN_nil (m : List (List Nat)) (r : Nat) : ledN m r [] = r := rfl
@[simp] theorem ledN_one (m : List (List Nat)) (r a : Nat) : ledN m r [a] = stp m r a := rfl
theorem ledN_app (m : List (List Nat)) (r : Nat) (u v : List Nat) : ledN m r (u ++ v) = ledN m (ledN m r u) v := by unfold ledN; rw [List.foldl_append]
/-- machine[room][letter] -/
theorem ix_row {m : List (List Nat)} {r : Nat} (hr : r < m.length) (M : Mem) : ixF (.v (tM m)) (.v (.int r)) M = some (.v (tN m[r]), M) := by
  unfold ixF tM
  simp only [seqOf, Option.bind_some]
  rw [atI_get _ _ (by simpa using hr)]
  simp
theorem ix_nat {w : List Nat} {r : Nat} (hr : r < w.length) (M : Mem) : ixF (.v (tN w)) (.v (.int r)) M = some (.v (.int (w[r] : Nat)), M) := by
  unfold ixF tN
  simp only [seqOf, Option.bind_some]
  rw [atI_nats _ _ hr]
  simp
theorem ix_stp {m : List (List Nat)} {l : Nat} (h : Mach m l) {r a : Nat} (hr : r < m.length) (ha : a < l) (M : Mem) : ixF (.v (tN m[r])) (.v (.int a)) M = some (.v (.int (stp m r a : Nat)), M) := by
  rw [ix_nat (by rw [h.row hr]; exact ha), stp_eq h hr ha]
theorem forL_nil {g : G} {body : S} {ρ : Env} {m : Mem} : forL g body [] [] ρ m = some (.nx ρ m) := by
  unfold forL
  rw [if_pos]
  intro p hp; simp at hp
theorem forL_cons {g : G} {body : S} {x : D} {xs : List D} {ρ : Env} {m : Mem} : forL g body [] (x :: xs) ρ m = (g x ρ m).bind fun y => (body y.1 y.2).bind fun r => match r with
      | .nx ρ' m' => forL g body [] xs ρ' m'
      | .ct ρ' m' => forL g body [] xs ρ' m'
      | .bk ρ' m' => some (.nx ρ' m')
      | .rt r m' => some (.rt r m') := by
  have hc : chk [] m := fun p hp => by simp at hp
  (rw [forL, if_pos hc]) <;> rfl
theorem cmpL_nil {t : Tg} {c : B} {f : E} {ρ : Env} {m : Mem} : cmpL t c f [] ρ [] m = some ([], m) := by
  unfold cmpL
  rw [if_pos]
  intro p hp; simp at hp
theorem cmpL_cons {t : Tg} {c : B} {f : E} {ρ : Env} {m : Mem} {x : D} {xs : List D} : cmpL t c f [] ρ (x :: xs) m = (t.put x ρ).bind fun ρ' => (c ρ' m).bind fun b => match b.1 with
      | true => (f ρ' b.2).bind fun y => (cmpL t c f [] ρ xs (val y.1 y.2).2).bind fun r => some ((val y.1 y.2).1 :: r.1, r.2)
      | false => cmpL t c f [] ρ xs b.2 := by
  have hc : chk [] m := fun p hp => by simp at hp
  (rw [cmpL, if_pos hc]) <;> rfl
end Q
namespace Q
open PySem L2
/-! ### draws: a state that lies at some places of the memory -/
def Fr (ab : List Nat) (M M' : Mem) : Prop := M'.length = M.length ∧ ∀ i : Nat, i ∉ ab → M'[i]? = M[i]?
theorem Fr.refl (ab : List Nat) (M : Mem) : Fr ab M M := ⟨rfl, fun _ _ => rfl⟩
theorem Fr.trans {ab : List Nat} {M M1 M2 : Mem} (h : Fr ab M M1) (k : Fr ab M1 M2) : Fr ab M M2 := ⟨k.1.trans h.1, fun i hi => (k.2 i hi).trans (h.2 i hi)⟩
/-- S: what holds of the state; st: its data; nx: the def that draws -/
structure Gen (st : D) (ab : List Nat) (S : Mem → Prop) (nx : Fn) : Prop where
  next : ∀ (M : Mem) (n : Nat), S M → 0 < n → n ≤ 100000 → ∃ (r : Nat) (M' : Mem), nx [st, .int (n : Int)] M = some (.v (.int (r : Int)), M') ∧ r < n ∧ S M' ∧ Fr ab M M'
  keep : ∀ M M', S M → (∀ i ∈ ab, M'[i]? = M[i]?) → S M'
  lo : ∀ M, S M → ∀ i ∈ ab, ∀ o, M[i]? = some o → o.lo M.length
  ins : ∀ M, S M → ∀ i ∈ ab, i < M.length
  sto : ∀ M, S M → st.lo M.length
section
variable {st : D} {ab : List Nat} {S : Mem → Prop} {nx : Fn}
theorem Gen.app (g : Gen st ab S nx) {M : Mem} (h : S M) (e : Mem) : S (M ++ e) := g.keep M _ h (fun i hi => by rw [List.getElem?_append_left (g.ins M h i hi)])
theorem ob_lo_mono {n k : Nat} (hk : n ≤ k) : ∀ {b : Ob}, b.lo n → b.lo k := by
  have hd : ∀ d : D, d.lo n → d.lo k := by
    intro d
    refine D.rec (motive_1 := fun d => d.lo n → d.lo k) (motive_2 := fun ds => loL n ds → loL k ds) (by simp) (by simp) (by simp) (by simp) (fun xs ih => by simpa using ih) (fun xs ih => by simpa using ih) (fun xs ih => by simpa using ih) (fun i => by simp; omega) (fun k xs ih => by rw [D.lo, D.lo]; exact ih) (by simp) (fun d ds h1 h2 => by simp; exact fun a b => ⟨h1 a, h2 b⟩) d
  intro b h
  cases b with
  | lst xs =>
    have h' : loL n xs := h
    show loL k xs
    rw [loL_iff] at h' ⊢
    exact fun d hm => hd d (h' d hm)
  | dct kvs =>
    have h' : loK n kvs := h
    show loK k kvs
    induction kvs with
    | nil => simp [loK]
    | cons p r ih => rw [loK] at h' ⊢; exact ⟨hd _ h'.1, hd _ h'.2.1, ih h'.2.2 h'.2.2⟩
  | dcr kvs =>
    have h' : loK n kvs := h
    show loK k kvs
    induction kvs with
    | nil => simp [loK]
    | cons p r ih => rw [loK] at h' ⊢; exact ⟨hd _ h'.1, hd _ h'.2.1, ih h'.2.2 h'.2.2⟩
  | tab q => trivial
theorem Gen.okM (g : Gen st ab S nx) {M M' : Mem} (f : Fr ab M M') (s : S M') (e : Mem) : Q.okM M (M' ++ e) := fun i b hi h => by
  rw [List.getElem?_append_left (by rw [f.1]; exact hi)] at h
  by_cases hm : i ∈ ab
  · right
    have := g.lo M' s i hm b h
    rw [f.1] at this
    exact this
  · left; rw [← f.2 i hm]; exact h
/-- a def's end, behind draws -/
theorem Gen.shut (g : Gen st ab S nx) {M M' e : Mem} {d : D} (f : Fr ab M M') (s : S M') (hd : d.lo M.length) : shut M (.v d) (M' ++ e) = (.v d, M') := by
  unfold Q.shut
  rw [if_pos (g.okM f s e)]
  simp only [if_pos hd]
  rw [← f.1]; simp
theorem Gen.shutS (g : Gen st ab S nx) {M M' : Mem} {d : D} (f : Fr ab M M') (s : S M') (hd : d.lo M.length) : Q.shut M (.v d) M' = (.v d, M') := by
  have := g.shut (e := []) f s hd
  rw [List.append_nil] at this
  exact this
/-- a def's end that hands a new list back -/
theorem Gen.shutO (g : Gen st ab S nx) {M M' e : Mem} {b : Ob} (f : Fr ab M M') (s : S M') (hd : b.lo M.length) : Q.shut M (.o b) (M' ++ e) = (.o b, M') := by
  unfold Q.shut
  rw [if_pos (g.okM f s e)]
  simp only [if_pos hd]
  rw [← f.1]; simp
theorem Gen.shutL (g : Gen st ab S nx) {M M' e : Mem} {b : Ob} {k : Nat} (f : Fr ab M M') (s : S M') (hk : M.length ≤ k) (he : (M' ++ e)[k]? = some b) (hd : b.lo M.length) : Q.shut M (.v (.ref k)) (M' ++ e) = (.o b, M') := by
  unfold Q.shut
  rw [if_pos (g.okM f s e)]
  have : ¬ D.lo M.length (.ref k) := by simp; exact hk
  simp only [if_neg this, he, if_pos hd]
  simp [← f.1]
end
/-- what a def holds of its own behind the memory stays there -/
theorem Gen.tail {st : D} {ab : List Nat} {S : Mem → Prop} {nx : Fn} (g : Gen st ab S nx) {M M' e : Mem} (s : S M) (s' : S M') (f : Fr ab (M ++ e) M') : ∃ M1, M' = M1 ++ e ∧ S M1 ∧ Fr ab M M1 := by
  have hl : M'.length = M.length + e.length := by rw [f.1]; simp
  refine ⟨M'.take M.length, ?_, g.keep M' _ s' fun i hi => ?_, ?_, fun i hi => ?_⟩
  · apply List.ext_getElem?
    intro j
    by_cases hj : j < M.length
    · rw [List.getElem?_append_left (by simp; omega), List.getElem?_take_of_lt hj]
    · rw [List.getElem?_append_right (by simp; omega), f.2 j (fun hm => hj (g.ins M s j hm)), List.getElem?_append_right (by omega)]
      simp; congr 1; omega
  · rw [List.getElem?_take_of_lt (g.ins M s i hi)]
  · simp; omega
  · by_cases hj : i < M.length
    · rw [List.getElem?_take_of_lt hj, f.2 i hi, List.getElem?_append_left hj]
    · rw [List.getElem?_eq_none (by simp; omega), List.getElem?_eq_none (by omega)]
theorem get_end {M : Mem} {o : Ob} {k : Nat} (h : k = M.length) : (M ++ [o])[k]? = some o := by subst h; simp
theorem set_end {M : Mem} {o o' : Ob} {k : Nat} (h : k = M.length) : (M ++ [o]).set k o' = M ++ [o'] := by subst h; simp
/-! ### loops and comprehensions with a word of their own -/
theorem forL_inv {g : G} {body : S} {xs : List D} (J : Nat → Env → Mem → Prop) (step : ∀ (i : Nat) (x : D) (ρ : Env) (M : Mem), xs[i]? = some x → J i ρ M → ∃ ρ1 M1 ρ2 M2, g x ρ M = some (ρ1, M1) ∧ body ρ1 M1 = some (.nx ρ2 M2) ∧ J (i + 1) ρ2 M2) :
    ∀ {ρ : Env} {M : Mem}, J 0 ρ M → ∃ ρ' M', forL g body [] xs ρ M = some (.nx ρ' M') ∧ J xs.length ρ' M' := by
  have h : ∀ (n : Nat) (k : Nat) (ρ : Env) (M : Mem), n + k = xs.length → J k ρ M → ∃ ρ' M', forL g body [] (xs.drop k) ρ M = some (.nx ρ' M') ∧ J xs.length ρ' M' := by
    intro n
    induction n with
    | zero => intro k ρ M e j; rw [List.drop_eq_nil_of_le (by omega), forL_nil]; exact ⟨ρ, M, rfl, by rw [show xs.length = k by omega]; exact j⟩
    | succ n ih =>
      intro k ρ M e j
      have hk : k < xs.length := by omega
      rw [List.drop_eq_getElem_cons hk, forL_cons]
      obtain ⟨ρ1, M1, ρ2, M2, e1, e2, j2⟩ := step k _ ρ M (List.getElem?_eq_getElem hk) j
      rw [e1]
      simp only [Option.bind_some, e2]
      exact ih (k + 1) ρ2 M2 (by omega) j2
  intro ρ M j
  have := h xs.length 0 ρ M (by omega) j
  simpa using this
theorem forR_inv {g : G} {body : S} {n : Nat} (J : Nat → Env → Mem → Prop) {ρ : Env} {M : Mem} (h0 : J 0 ρ M) (step : ∀ (i : Nat) (ρ : Env) (M : Mem), i < n → J i ρ M → ∃ ρ1 M1 ρ2 M2, g (.int (i : Int)) ρ M = some (ρ1, M1) ∧ body ρ1 M1 = some (.nx ρ2 M2) ∧ J (i + 1) ρ2 M2) :
    ∃ ρ' M', forL g body [] (upto 0 n) ρ M = some (.nx ρ' M') ∧ J n ρ' M' := by
  have := forL_inv (g := g) (body := body) (xs := upto 0 n) J (fun i x ρ M hx j => by
    obtain ⟨hi, rfl⟩ := upto_get hx
    have := step i ρ M hi j
    simpa using this) h0
  rw [upto_len] at this
  exact this
theorem cmpL_inv {t : Tg} {c : B} {f : E} {ρ : Env} {xs : List D} (J : Mem → Prop) (Rl : D → D → Prop) (step : ∀ (x : D) (M : Mem), x ∈ xs → J M → ∃ ρ' M1 d M2, t.put x ρ = some ρ' ∧ c ρ' M = some (true, M1) ∧ f ρ' M1 = some (.v d, M2) ∧ J M2 ∧ Rl x d) :
    ∀ {M : Mem}, J M → ∃ ds M', cmpL t c f [] ρ xs M = some (ds, M') ∧ J M' ∧ Paired Rl xs ds := by
  induction xs with
  | nil => intro M j; exact ⟨[], M, cmpL_nil, j, .nil⟩
  | cons x xs ih =>
    intro M j
    obtain ⟨ρ', M1, d, M2, e1, e2, e3, j2, r⟩ := step x M (by simp) j
    obtain ⟨ds, M3, e4, j3, rs⟩ := ih (fun y M hy => step y M (by simp [hy])) j2
    refine ⟨d :: ds, M3, ?_, j3, .cons r rs⟩
    rw [cmpL_cons, e1]
    simp [e2, e3, e4]
/-- elements that change nothing -/
theorem cmpL_map {t : Tg} {f : E} {ρ : Env} {xs : List D} {M : Mem} (h : D → D) (step : ∀ x ∈ xs, ∃ ρ', t.put x ρ = some ρ' ∧ f ρ' M = some (.v (h x), M)) : cmpL t bYes f [] ρ xs M = some (xs.map h, M) := by
  induction xs with
  | nil => exact cmpL_nil
  | cons x xs ih =>
    obtain ⟨ρ', e1, e2⟩ := step x (by simp)
    rw [cmpL_cons, e1]
    simp [bYes, e2, ih fun y hy => step y (by simp [hy])]
end Q
namespace Q
open PySem L2
/-! ### slices, lengths, items of typed data -/
theorem sIx_of {n d : Nat} {k : Int} (h : 0 ≤ k) : HT.sIx n d (some k) = min k.toNat n := by
  obtain ⟨j, rfl⟩ := Int.eq_ofNat_of_zero_le h
  rw [HT.sIx_nat]; simp
theorem cut_to {xs : List D} {k : Int} (h : 0 ≤ k) : cutD xs none (some k) = xs.take k.toNat := by
  unfold cutD
  rw [sIx_of h, HT.sIx_none, List.drop_zero, Nat.sub_zero]
  by_cases q : k.toNat ≤ xs.length
  · rw [Nat.min_eq_left q]
  · rw [Nat.min_eq_right (by omega), List.take_length, List.take_of_length_le (by omega)]
theorem cut_from {xs : List D} {k : Int} (h : 0 ≤ k) : cutD xs (some k) none = xs.drop k.toNat := by
  unfold cutD
  rw [sIx_of h, HT.sIx_none]
  by_cases q : k.toNat ≤ xs.length
  · rw [Nat.min_eq_left q, List.take_of_length_le (by simp)]
  · rw [Nat.min_eq_right (by omega), List.drop_length, List.drop_of_length_le (by omega)]; simp
theorem cut_mid {xs : List D} {i j : Int} (h : 0 ≤ i) (h2 : 0 ≤ j) : cutD xs (some i) (some j) = (xs.drop i.toNat).take (j.toNat - i.toNat) := by
  unfold cutD
  rw [sIx_of h, sIx_of h2]
  by_cases q : i.toNat ≤ xs.length
  · rw [Nat.min_eq_left q]
    by_cases q2 : j.toNat ≤ xs.length
    · rw [Nat.min_eq_left q2]
    · rw [Nat.min_eq_right (by omega), List.take_of_length_le (by simp), List.take_of_length_le (by simp; omega)]
  · rw [show min i.toNat xs.length = xs.length by omega, List.drop_length, List.drop_of_length_le (by omega)]; simp
theorem cut_back {xs : List D} {k : Nat} (h : 0 < k) : cutD xs none (some (-(k : Int))) = xs.take (xs.length - k) := by
  unfold cutD
  rw [HT.sIx_none, List.drop_zero, Nat.sub_zero]
  show xs.take (if -(k : Int) < 0 then (-(k : Int) + (xs.length : Int)).toNat else _) = _
  rw [if_pos (by omega)]
  congr 1
  omega
theorem len_fl (xs : List D) (M : Mem) : lenF (.v (.fl xs)) M = some (.v (.int xs.length), M) := by simp [lenF, seqOf]
theorem len_tup (xs : List D) (M : Mem) : lenF (.v (.tup xs)) M = some (.v (.int xs.length), M) := by simp [lenF, seqOf]
theorem len_ol (xs : List D) (M : Mem) : lenF (.o (.lst xs)) M = some (.v (.int xs.length), M) := by simp [lenF, seqOf]
theorem len_tN (w : List Nat) (M : Mem) : lenF (.v (tN w)) M = some (.v (.int w.length), M) := by simp [tN, len_tup]
theorem len_tM (w : List (List Nat)) (M : Mem) : lenF (.v (tM w)) M = some (.v (.int w.length), M) := by simp [tM, len_tup]
theorem len_ref {n : Nat} {xs : List D} {M : Mem} (h : M[n]? = some (.lst xs)) : lenF (.v (.ref n)) M = some (.v (.int xs.length), M) := by simp [lenF, seqOf, h]
theorem tup_ol (xs : List D) (M : Mem) : tupF (.o (.lst xs)) M = some (.v (.tup xs), M) := by simp [tupF, seqOf]
theorem tup_ref {n : Nat} {xs : List D} {M : Mem} (h : M[n]? = some (.lst xs)) : tupF (.v (.ref n)) M = some (.v (.tup xs), M) := by simp [tupF, seqOf, h]
theorem list_tN (w : List Nat) (M : Mem) : listF (.v (tN w)) M = some (.o (.lst (nats w)), M) := by simp [listF, tN, seqOf]
theorem sl_fl (xs : List D) (lo hi : Option Int) (M : Mem) : slF (.v (.fl xs)) lo hi M = some (.o (.lst (cutD xs lo hi)), M) := by simp [slF, seqOf]
theorem sl_tup (xs : List D) (lo hi : Option Int) (M : Mem) : slF (.v (.tup xs)) lo hi M = some (.v (.tup (cutD xs lo hi)), M) := by simp [slF]
theorem sl_ol (xs : List D) (lo hi : Option Int) (M : Mem) : slF (.o (.lst xs)) lo hi M = some (.o (.lst (cutD xs lo hi)), M) := by simp [slF, seqOf]
theorem src_ol (xs : List D) (M : Mem) : srcOf (.o (.lst xs)) M = some ⟨xs, []⟩ := by simp [srcOf]
theorem src_tup (xs : List D) (M : Mem) : srcOf (.v (.tup xs)) M = some ⟨xs, []⟩ := by simp [srcOf]
theorem src_tN (w : List Nat) (M : Mem) : srcOf (.v (tN w)) M = some ⟨nats w, []⟩ := by simp [srcOf, tN]
theorem src_tM (w : List (List Nat)) (M : Mem) : srcOf (.v (tM w)) M = some ⟨w.map tN, []⟩ := by simp [srcOf, tM]
@[simp] theorem eq_int (i j : Int) (M : Mem) : eqF (.v (.int i)) (.v (.int j)) M = some (.v (.bl (decide (i = j))), M) := by simp [eqF, form, okD, D.eqb]
@[simp] theorem ne_int (i j : Int) (M : Mem) : neF (.v (.int i)) (.v (.int j)) M = some (.v (.bl (!decide (i = j))), M) := by simp [neF, form, okD, D.eqb]
@[simp] theorem isi_int (i : Int) (M : Mem) (t : Ty) : isiF t (.v (.int i)) M = some (.v (.bl (isiB t "int")), M) := by simp [isiF, tyOf]
theorem ix_ol {xs : List D} {i : Nat} {d : D} {M : Mem} (h : xs[i]? = some d) : ixF (.o (.lst xs)) (.v (.int (i : Int))) M = some (.v d, M) := by
  obtain ⟨h1, h2⟩ := List.getElem?_eq_some_iff.mp h
  simp [ixF, seqOf, atI, ixN, h1, h2]
theorem upto_nats (n : Nat) : upto 0 n = nats (List.range n) := by simp [upto]
theorem add_tN (u v : List Nat) (M : Mem) (h : fits (u.length + v.length)) : addF (.v (tN u)) (.v (tN v)) M = some (.v (tN (u ++ v)), M) := by simp [addF, tN, h]
theorem sz {n : Nat} (h : n ≤ 100000) : n ≤ sizeLine := by rw [sizeLine_eq]; omega
theorem tup_nil : D.tup [] = tN [] := rfl
theorem tup_one (a : Nat) : D.tup [.int (a : Int)] = tN [a] := rfl
@[simp] theorem rg_nat {n : Nat} (h : n ≤ 16777216) : rgOk (n : Int) := rgOk_of (by omega) (by omega)
end Q
namespace Q
open PySem L2
/-- elements that change nothing, typed -/
theorem cmpL_mp {α : Type} {t : Tg} {f : E} {ρ : Env} {M : Mem} (emb h : α → D) (xs : List α) (step : ∀ x ∈ xs, ∃ ρ', t.put (emb x) ρ = some ρ' ∧ f ρ' M = some (.v (h x), M)) : cmpL t bYes f [] ρ (xs.map emb) M = some (xs.map h, M) := by
  induction xs with
  | nil => exact cmpL_nil
  | cons x xs ih =>
    obtain ⟨ρ', e1, e2⟩ := step x (by simp)
    rw [List.map_cons, cmpL_cons, e1]
    simp [bYes, e2, ih fun y hy => step y (by simp [hy])]
/-- the same with a test -/
theorem cmpL_fl {α : Type} {t : Tg} {c : B} {f : E} {ρ : Env} {M : Mem} (emb h : α → D) (p : α → Bool) (xs : List α) (step : ∀ x ∈ xs, ∃ ρ', t.put (emb x) ρ = some ρ' ∧ c ρ' M = some (p x, M) ∧ (p x = true → f ρ' M = some (.v (h x), M))) : cmpL t c f [] ρ (xs.map emb) M = some ((xs.filter p).map h, M) := by
  induction xs with
  | nil => exact cmpL_nil
  | cons x xs ih =>
    obtain ⟨ρ', e1, e2, e3⟩ := step x (by simp)
    have ih := ih fun y hy => step y (by simp [hy])
    rw [List.map_cons, cmpL_cons, e1]
    cases hp : p x with
    | true => simp [e2, hp, e3 hp, ih]
    | false => simp [e2, hp, ih]
/-- a loop that changes nothing and goes on -/
theorem forL_skip {α : Type} {g : G} {body : S} {M : Mem} (emb : α → D) (J : Env → Prop) (xs : List α) (step : ∀ x ∈ xs, ∀ ρ, J ρ → ∃ ρ1 ρ2, g (emb x) ρ M = some (ρ1, M) ∧ body ρ1 M = some (.nx ρ2 M) ∧ J ρ2) :
    ∀ {ρ : Env}, J ρ → ∃ ρ', forL g body [] (xs.map emb) ρ M = some (.nx ρ' M) ∧ J ρ' := by
  induction xs with
  | nil => intro ρ j; exact ⟨ρ, forL_nil, j⟩
  | cons x xs ih =>
    intro ρ j
    obtain ⟨ρ1, ρ2, e1, e2, j2⟩ := step x (by simp) ρ j
    obtain ⟨ρ', e3, j3⟩ := ih (fun y hy => step y (by simp [hy])) j2
    refine ⟨ρ', ?_, j3⟩
    rw [List.map_cons, forL_cons, e1]
    simp [e2, e3]
theorem Gen.draws {st : D} {ab : List Nat} {S : Mem → Prop} {nx : Fn} (g : Gen st ab S nx) {t : Tg} {f : E} {ρ : Env} {n : Nat} (hn : 0 < n) (hn2 : n ≤ 100000) {xs : List D} (hE : ∀ x ∈ xs, ∃ ρ', t.put x ρ = some ρ' ∧ ∀ M, f ρ' M = nx [st, .int (n : Int)] M) :
    ∀ {M : Mem}, S M → ∃ (w : List Nat) (M' : Mem), cmpL t bYes f [] ρ xs M = some (nats w, M') ∧ w.length = xs.length ∧ (∀ r ∈ w, r < n) ∧ S M' ∧ Fr ab M M' := by
  induction xs with
  | nil => intro M h; exact ⟨[], M, by simp [cmpL_nil], rfl, by simp, h, Fr.refl _ _⟩
  | cons x xs ih =>
    intro M h
    obtain ⟨r, M1, e, q, s1, f1⟩ := g.next M n h hn hn2
    obtain ⟨w, M2, e2, hw, hq, s2, f2⟩ := ih (fun y hy => hE y (by simp [hy])) s1
    obtain ⟨ρ', e3, e4⟩ := hE x (by simp)
    refine ⟨r :: w, M2, ?_, by simp [hw], fun x hx => ?_, s2, f1.trans f2⟩
    · rw [cmpL_cons, e3]
      simp [e4, e, e2]
    · rcases List.mem_cons.mp hx with rfl | hx
      · exact q
      · exact hq x hx
/-- a law's end -/
theorem law_shut (d : D) (M : Mem) (h : d.lo 0) : shut [] (.v d) M = (.v d, (shut [] (.v d) M).2) := by
  unfold shut
  rw [if_pos (show okM [] M from fun i b hi => by simp at hi)]
  simp [h]
@[simp] theorem tup_ref' (xs : List D) (M : Mem) : tupF (.v (.tup xs)) M = some (.v (.tup xs), M) := by simp [tupF, seqOf]
theorem tM_eq (m : List (List Nat)) : D.tup (m.map fun r => D.tup (nats r)) = tM m := rfl
theorem tN_eq (m : List Nat) : D.tup (nats m) = tN m := rfl
theorem map_range_get {α β : Type} (xs : List α) (d : α) (f : α → β) : (List.range xs.length).map (fun i => f (xs.getD i d)) = xs.map f := by
  apply List.ext_getElem
  · simp
  · intro i h1 h2
    simp at h1
    simp [List.getD, h1]
end Q
namespace Q
open PySem L2
/-! ### a machine for reckoning: what is to hold behind a thing, with what follows kept as a closed word -/
abbrev PO2 := Out → Mem → Prop
def WO (o : Option (Out × Mem)) (Q : Out → Mem → Prop) : Prop := ∃ r M, o = some (r, M) ∧ Q r M
def WE (e : E) (ρ : Env) (M : Mem) (Q : Out → Mem → Prop) : Prop := ∃ r M', e ρ M = some (r, M') ∧ Q r M'
def WB (b : B) (ρ : Env) (M : Mem) (Q : Bool → Mem → Prop) : Prop := ∃ r M', b ρ M = some (r, M') ∧ Q r M'
def WA (a : A) (ρ : Env) (M : Mem) (Q : List D → Mem → Prop) : Prop := ∃ r M', a ρ M = some (r, M') ∧ Q r M'
def WN (o : O) (ρ : Env) (M : Mem) (Q : Option Int → Mem → Prop) : Prop := ∃ r M', o ρ M = some (r, M') ∧ Q r M'
def WS (s : S) (ρ : Env) (M : Mem) (Q : R → Prop) : Prop := ∃ r, s ρ M = some r ∧ Q r
def WI (i : I) (ρ : Env) (M : Mem) (Q : Src → Mem → Prop) : Prop := ∃ r M', i ρ M = some (r, M') ∧ Q r M'
def WG (g : G) (d : D) (ρ : Env) (M : Mem) (Q : Env → Mem → Prop) : Prop := ∃ r M', g d ρ M = some (r, M') ∧ Q r M'
def WC (t : Tg) (c : B) (f : E) (lv : List (Nat × Ob)) (ρ : Env) (xs : List D) (M : Mem) (Q : List D → Mem → Prop) : Prop := ∃ r M', cmpL t c f lv ρ xs M = some (r, M') ∧ Q r M'
def WL (g : G) (body : S) (lv : List (Nat × Ob)) (xs : List D) (ρ : Env) (M : Mem) (Q : R → Prop) : Prop := ∃ r, forL g body lv xs ρ M = some r ∧ Q r
def WH (c : B) (body : S) (n : Nat) (ρ : Env) (M : Mem) (Q : R → Prop) : Prop := ∃ r, whL c body n ρ M = some r ∧ Q r
/-- a wish about a source -/
def WSrc (o : Option Src) (M : Mem) (Q : Src → Mem → Prop) : Prop := ∃ s, o = some s ∧ Q s M
def WM (o : Option Mem) (Q : Mem → Prop) : Prop := ∃ s, o = some s ∧ Q s
def WEnv (o : Option Env) (Q : Env → Prop) : Prop := ∃ s, o = some s ∧ Q s
def WD (o : Option (Option D)) (Q : D → Prop) : Prop := ∃ d, o = some (some d) ∧ Q d
/-- what follows -/
def kV (M : Mem) (Q : PO2) (d : D) : Prop := Q (.v d) M
def kBin1 (f : F2) (b : E) (ρ : Env) (Q : PO2) (x : Out) (M : Mem) : Prop := WE b ρ M fun y M => WO (f x y M) Q
def kBin2 (f : F2) (x : Out) (Q : PO2) (y : Out) (M : Mem) : Prop := WO (f x y M) Q
def kUn (f : F1) (Q : PO2) (x : Out) (M : Mem) : Prop := WO (f x M) Q
def kAnd (b : E) (ρ : Env) (Q : PO2) (x : Out) (M : Mem) : Prop := match x with | .v (.bl true) => WE b ρ M Q | .v (.bl false) => Q (.v (.bl false)) M | _ => False
def kOr (b : E) (ρ : Env) (Q : PO2) (x : Out) (M : Mem) : Prop := match x with | .v (.bl false) => WE b ρ M Q | .v (.bl true) => Q (.v (.bl true)) M | _ => False
def kNot (Q : PO2) (x : Out) (M : Mem) : Prop := match x with | .v (.bl b) => Q (.v (.bl (!b))) M | _ => False
def kIf (a b : E) (ρ : Env) (Q : PO2) (c : Bool) (M : Mem) : Prop := match c with | true => WE a ρ M Q | false => WE b ρ M Q
def kOf (Q : Bool → Mem → Prop) (x : Out) (M : Mem) : Prop := match x with | .v (.bl b) => Q b M | _ => False
def kbAnd (b : B) (ρ : Env) (Q : Bool → Mem → Prop) (c : Bool) (M : Mem) : Prop := match c with | true => WB b ρ M Q | false => Q false M
def kbOr (b : B) (ρ : Env) (Q : Bool → Mem → Prop) (c : Bool) (M : Mem) : Prop := match c with | false => WB b ρ M Q | true => Q true M
def kbNot (Q : Bool → Mem → Prop) (c : Bool) (M : Mem) : Prop := Q (!c) M
def kCons1 (r : A) (ρ : Env) (Q : List D → Mem → Prop) (x : Out) (M : Mem) : Prop := WA r ρ (val x M).2 fun ds M' => Q ((val x M).1 :: ds) M'
def kCons2 (d : D) (Q : List D → Mem → Prop) (ds : List D) (M : Mem) : Prop := Q (d :: ds) M
def kTup (Q : PO2) (ds : List D) (M : Mem) : Prop := fits ds.length ∧ Q (.v (.tup ds)) M
def kLst (Q : PO2) (ds : List D) (M : Mem) : Prop := fits ds.length ∧ Q (.o (.lst ds)) M
def kCall (F : Fn) (Q : PO2) (ds : List D) (M : Mem) : Prop := WO (F ds M) Q
def kCh1 (f g : F2) (b c : E) (ρ : Env) (Q : PO2) (x : Out) (M : Mem) : Prop := WE b ρ M fun y M => WO (f x y M) fun z M => match z with | .v (.bl true) => WE c ρ M fun w M => WO (g y w M) Q | .v (.bl false) => Q (.v (.bl false)) M | _ => False
def kCh2 (f g : F2) (c : E) (ρ : Env) (Q : PO2) (x : Out) (y : Out) (M : Mem) : Prop := WO (f x y M) fun z M => match z with | .v (.bl true) => WE c ρ M fun w M => WO (g y w M) Q | .v (.bl false) => Q (.v (.bl false)) M | _ => False
def kCh3 (g : F2) (c : E) (ρ : Env) (Q : PO2) (y : Out) (z : Out) (M : Mem) : Prop := match z with | .v (.bl true) => WE c ρ M fun w M => WO (g y w M) Q | .v (.bl false) => Q (.v (.bl false)) M | _ => False
def kMt1 (T : String) (f : F2) (b : E) (ρ : Env) (Q : PO2) (x : Out) (M : Mem) : Prop := isTyB T x M = true ∧ WE b ρ M fun y M => WO (f x y M) Q
def kMt0 (T : String) (f : F1) (Q : PO2) (x : Out) (M : Mem) : Prop := isTyB T x M = true ∧ WO (f x M) Q
def kDm1 (f : F2) (b : E) (ρ : Env) (Q : PO2) (x : Out) (M : Mem) : Prop := isDct x M = true ∧ WE b ρ M fun y M => WO (f x y M) Q
def kDm2 (f : F3) (b c : E) (ρ : Env) (Q : PO2) (x : Out) (M : Mem) : Prop := isDct x M = true ∧ WE b ρ M fun y M => WE c ρ M fun z M => WO (f x y z M) Q
def kDm2b (f : F3) (c : E) (ρ : Env) (x : Out) (Q : PO2) (y : Out) (M : Mem) : Prop := WE c ρ M fun z M => WO (f x y z M) Q
def kF3 (f : F3) (x y : Out) (Q : PO2) (z : Out) (M : Mem) : Prop := WO (f x y z M) Q
def kTm1 (f : F2) (b : E) (ρ : Env) (Q : PO2) (x : Out) (M : Mem) : Prop := match x with | .v (.tup xs) => WE b ρ M fun y M => WO (f (.v (.tup xs)) y M) Q | _ => False
def kSl1 (lo hi : O) (ρ : Env) (Q : PO2) (x : Out) (M : Mem) : Prop := WN lo ρ M fun l M => WN hi ρ M fun h M => WO (slF x l h M) Q
def kSl2 (hi : O) (ρ : Env) (Q : PO2) (x : Out) (l : Option Int) (M : Mem) : Prop := WN hi ρ M fun h M => WO (slF x l h M) Q
def kSl3 (Q : PO2) (x : Out) (l h : Option Int) (M : Mem) : Prop := WO (slF x l h M) Q
def kSome (Q : Option Int → Mem → Prop) (x : Out) (M : Mem) : Prop := match x with | .v (.int i) => Q (some i) M | _ => False
def kComp (t : Tg) (c : B) (f : E) (ρ : Env) (Q : PO2) (s : Src) (M : Mem) : Prop := WC t c f s.live ρ s.items M fun ds M => Q (.o (.lst ds)) M
def kOl (Q : PO2) (ds : List D) (M : Mem) : Prop := Q (.o (.lst ds)) M
def kRg1 (mk : List D → Out) (Q : PO2) (x : Out) (M : Mem) : Prop := match x with | .v (.int j) => rgOk j ∧ Q (mk (upto 0 j.toNat)) M | _ => False
def kRg2a (mk : List D → Out) (b : E) (ρ : Env) (Q : PO2) (x : Out) (M : Mem) : Prop := WE b ρ M fun y M => match x, y with | .v (.int i), .v (.int j) => rg2Ok i j ∧ Q (mk (upto i (j - i).toNat)) M | _, _ => False
def kRg2b (mk : List D → Out) (Q : PO2) (x : Out) (y : Out) (M : Mem) : Prop := match x, y with | .v (.int i), .v (.int j) => rg2Ok i j ∧ Q (mk (upto i (j - i).toNat)) M | _, _ => False
def kiE (Q : Src → Mem → Prop) (x : Out) (M : Mem) : Prop := WSrc (srcOf x M) M Q
def kiRg1 (Q : Src → Mem → Prop) (x : Out) (M : Mem) : Prop := match x with | .v (.int j) => rgOk j ∧ Q ⟨upto 0 j.toNat, []⟩ M | _ => False
def kiRg2a (b : E) (ρ : Env) (Q : Src → Mem → Prop) (x : Out) (M : Mem) : Prop := WE b ρ M fun y M => match x, y with | .v (.int i), .v (.int j) => rg2Ok i j ∧ Q ⟨upto i (j - i).toNat, []⟩ M | _, _ => False
def kiRg2b (Q : Src → Mem → Prop) (x : Out) (y : Out) (M : Mem) : Prop := match x, y with | .v (.int i), .v (.int j) => rg2Ok i j ∧ Q ⟨upto i (j - i).toNat, []⟩ M | _, _ => False
def kiZip1 (b : E) (ρ : Env) (Q : Src → Mem → Prop) (x : Out) (M : Mem) : Prop := WE b ρ M fun y M => WSrc (zipOf x y M) M Q
def kiZip2 (Q : Src → Mem → Prop) (x : Out) (y : Out) (M : Mem) : Prop := WSrc (zipOf x y M) M Q
def kiEnum (Q : Src → Mem → Prop) (x : Out) (M : Mem) : Prop := WSrc (enumOf x M) M Q
def kgE (M : Mem) (Q : Env → Mem → Prop) (ρ : Env) : Prop := Q ρ M
def kgIx1 (i : E) (d : D) (ρ : Env) (Q : Env → Mem → Prop) (x : Out) (M : Mem) : Prop := WE i ρ M fun y M => WM (stoF x y d M) fun M => Q ρ M
def kgIx2 (d : D) (ρ : Env) (Q : Env → Mem → Prop) (x : Out) (y : Out) (M : Mem) : Prop := WM (stoF x y d M) fun M => Q ρ M
def kgDx1 (i : E) (d : D) (ρ : Env) (Q : Env → Mem → Prop) (x : Out) (M : Mem) : Prop := WE i ρ M fun y M => WM (dstoF x y d M) fun M => Q ρ M
def kgDx2 (d : D) (ρ : Env) (Q : Env → Mem → Prop) (x : Out) (y : Out) (M : Mem) : Prop := WM (dstoF x y d M) fun M => Q ρ M
def kgQ (ρ : Env) (Q : Env → Mem → Prop) (M : Mem) : Prop := Q ρ M
def kSeq (b : S) (Q : R → Prop) (r : R) : Prop := match r with | .nx ρ M => WS b ρ M Q | r => Q r
def kSet (i : Nat) (ρ : Env) (Q : R → Prop) (x : Out) (M : Mem) : Prop := Q (.nx (ρ.set i (some (val x M).1)) (val x M).2)
def kPut (g : G) (ρ : Env) (Q : R → Prop) (x : Out) (M : Mem) : Prop := WG g (val x M).1 ρ (val x M).2 fun ρ M => Q (.nx ρ M)
def kNx (Q : R → Prop) (ρ : Env) (M : Mem) : Prop := Q (.nx ρ M)
def kPar (is : List Nat) (ρ : Env) (Q : R → Prop) (ds : List D) (M : Mem) : Prop := WEnv (setAll is ds ρ) fun ρ => Q (.nx ρ M)
def kNx1 (Q : R → Prop) (M : Mem) (ρ : Env) : Prop := Q (.nx ρ M)
def kDo (ρ : Env) (Q : R → Prop) (x : Out) (M : Mem) : Prop := Q (.nx ρ M)
def kRet (Q : R → Prop) (x : Out) (M : Mem) : Prop := Q (.rt x M)
def kIfS (a b : S) (ρ : Env) (Q : R → Prop) (c : Bool) (M : Mem) : Prop := match c with | true => WS a ρ M Q | false => WS b ρ M Q
def kAug1 (i : Nat) (f : F2) (e : E) (ρ : Env) (M : Mem) (Q : R → Prop) (d : D) : Prop := WE e ρ M fun x M => WO (f (.v d) x M) fun z M => Q (.nx (ρ.set i (some (val z M).1)) (val z M).2)
def kAug2 (i : Nat) (f : F2) (ρ : Env) (Q : R → Prop) (d : D) (x : Out) (M : Mem) : Prop := WO (f (.v d) x M) fun z M => Q (.nx (ρ.set i (some (val z M).1)) (val z M).2)
def kFor (g : G) (body : S) (ρ : Env) (Q : R → Prop) (s : Src) (M : Mem) : Prop := WL g body s.live s.items ρ M Q
def kFn (M0 : Mem) (Q : PO2) (r : R) : Prop := match r with | .rt x M => Q (shut M0 x M).1 (shut M0 x M).2 | .nx _ M => Q (shut M0 (.v .non) M).1 (shut M0 (.v .non) M).2 | _ => False
/-- a turn of a loop -/
def kTurn (J : Env → Mem → Prop) (Q : R → Prop) (r : R) : Prop := match r with | .nx ρ M => J ρ M | .ct ρ M => J ρ M | .bk ρ M => Q (.nx ρ M) | .rt v M => Q (.rt v M)
def kG (body : S) (Q : R → Prop) (ρ : Env) (M : Mem) : Prop := WS body ρ M Q

section
variable {a b c : E} {ca cb : B} {fr : A} {s1 s2 : S} {it : I} {g : G} {ρ : Env} {M : Mem} {Q : PO2} {QB : Bool → Mem → Prop} {QA : List D → Mem → Prop} {QN : Option Int → Mem → Prop} {QS : R → Prop} {QI : Src → Mem → Prop} {QG : Env → Mem → Prop} {f : F2} {f1 : F1} {f3 : F3} {x y z : Out} {d : D} {ds : List D}
theorem wo_some {r : Out} : WO (some (r, M)) Q ↔ Q r M := ⟨fun ⟨_, _, e, h⟩ => by cases e; exact h, fun h => ⟨_, _, rfl, h⟩⟩
theorem wsrc_some {s : Src} : WSrc (some s) M QI ↔ QI s M := ⟨fun ⟨_, e, h⟩ => by cases e; exact h, fun h => ⟨_, rfl, h⟩⟩
theorem wm_some {P : Mem → Prop} : WM (some M) P ↔ P M := ⟨fun ⟨_, e, h⟩ => by cases e; exact h, fun h => ⟨_, rfl, h⟩⟩
theorem wenv_some {P : Env → Prop} : WEnv (some ρ) P ↔ P ρ := ⟨fun ⟨_, e, h⟩ => by cases e; exact h, fun h => ⟨_, rfl, h⟩⟩
theorem wd_some {P : D → Prop} : WD (some (some d)) P ↔ P d := ⟨fun ⟨_, e, h⟩ => by cases e; exact h, fun h => ⟨_, rfl, h⟩⟩
theorem bex {α β γ : Type} {o : Option (α × β)} {h : α × β → Option γ} {P : γ → Prop} : (∃ r, o.bind h = some r ∧ P r) ↔ ∃ x y, o = some (x, y) ∧ ∃ r, h (x, y) = some r ∧ P r := by
  constructor
  · rintro ⟨r, e, p⟩
    obtain ⟨⟨x, y⟩, e1, e2⟩ := bind_some e
    exact ⟨x, y, e1, r, e2, p⟩
  · rintro ⟨x, y, e1, r, e2, p⟩
    exact ⟨r, by rw [e1]; exact e2, p⟩
theorem bex2 {α β γ δ : Type} {o : Option (α × β)} {h : α × β → Option (γ × δ)} {P : γ → δ → Prop} : (∃ r s, o.bind h = some (r, s) ∧ P r s) ↔ ∃ x y, o = some (x, y) ∧ ∃ r s, h (x, y) = some (r, s) ∧ P r s := by
  constructor
  · rintro ⟨r, s, e, p⟩
    obtain ⟨⟨x, y⟩, e1, e2⟩ := bind_some e
    exact ⟨x, y, e1, r, s, e2, p⟩
  · rintro ⟨x, y, e1, r, s, e2, p⟩
    exact ⟨r, s, by rw [e1]; exact e2, p⟩
theorem nex2 {γ δ : Type} {P : γ → δ → Prop} : (∃ r s, (none : Option (γ × δ)) = some (r, s) ∧ P r s) ↔ False := ⟨fun ⟨_, _, e, _⟩ => (by cases e), False.elim⟩
theorem sex2 {γ δ : Type} {P : γ → δ → Prop} {x : γ} {y : δ} : (∃ r s, some (x, y) = some (r, s) ∧ P r s) ↔ P x y := ⟨fun ⟨_, _, e, h⟩ => by cases e; exact h, fun h => ⟨_, _, rfl, h⟩⟩
theorem sex1 {γ : Type} {P : γ → Prop} {x : γ} : (∃ r, some x = some r ∧ P r) ↔ P x := ⟨fun ⟨_, e, h⟩ => by cases e; exact h, fun h => ⟨_, rfl, h⟩⟩
theorem nex1 {γ : Type} {P : γ → Prop} : (∃ r, (none : Option γ) = some r ∧ P r) ↔ False := ⟨fun ⟨_, e, _⟩ => (by cases e), False.elim⟩
theorem ifex2 {γ δ : Type} {P : γ → δ → Prop} {p : Prop} [Decidable p] {x : γ} {y : δ} : (∃ r s, (if p then some (x, y) else none) = some (r, s) ∧ P r s) ↔ p ∧ P x y := by
  by_cases h : p
  · rw [if_pos h, sex2]; exact ⟨fun q => ⟨h, q⟩, fun q => q.2⟩
  · rw [if_neg h, nex2]; exact ⟨False.elim, fun q => h q.1⟩
theorem we_var {i : Nat} : WE (eVar i) ρ M Q ↔ WD ρ[i]? (kV M Q) := by
  constructor
  · rintro ⟨r, M', e, p⟩
    unfold eVar at e
    split at e
    · rename_i d hd; cases e; exact ⟨d, hd, p⟩
    · cases e
  · rintro ⟨d, e, p⟩
    exact ⟨_, _, by simp only [eVar, e], p⟩
theorem kV_eq : kV M Q d ↔ Q (.v d) M := Iff.rfl
theorem we_c : WE (eC d) ρ M Q ↔ Q (.v d) M := sex2
theorem we_bin : WE (eBin f a b) ρ M Q ↔ WE a ρ M (kBin1 f b ρ Q) := by
  unfold WE eBin; rw [bex2]; simp only [bex2]; exact Iff.rfl
theorem kBin1_eq : kBin1 f b ρ Q x M ↔ WE b ρ M (kBin2 f x Q) := Iff.rfl
theorem kBin2_eq : kBin2 f x Q y M ↔ WO (f x y M) Q := Iff.rfl
theorem we_un : WE (eUn f1 a) ρ M Q ↔ WE a ρ M (kUn f1 Q) := by unfold WE eUn; rw [bex2]; exact Iff.rfl
theorem kUn_eq : kUn f1 Q x M ↔ WO (f1 x M) Q := Iff.rfl
theorem we_and : WE (eAnd a b) ρ M Q ↔ WE a ρ M (kAnd b ρ Q) := by
  unfold WE eAnd; rw [bex2]; refine exists_congr fun x => exists_congr fun y => and_congr_right fun _ => ?_
  cases x with
  | o b => exact nex2
  | v d => cases d with
    | bl p => cases p <;> first | exact Iff.rfl | exact sex2
    | _ => exact nex2
theorem kAnd_t : kAnd b ρ Q (.v (.bl true)) M ↔ WE b ρ M Q := Iff.rfl
theorem kAnd_f : kAnd b ρ Q (.v (.bl false)) M ↔ Q (.v (.bl false)) M := Iff.rfl
theorem we_or : WE (eOr a b) ρ M Q ↔ WE a ρ M (kOr b ρ Q) := by
  unfold WE eOr; rw [bex2]; refine exists_congr fun x => exists_congr fun y => and_congr_right fun _ => ?_
  cases x with
  | o b => exact nex2
  | v d => cases d with
    | bl p => cases p <;> first | exact Iff.rfl | exact sex2
    | _ => exact nex2
theorem kOr_t : kOr b ρ Q (.v (.bl true)) M ↔ Q (.v (.bl true)) M := Iff.rfl
theorem kOr_f : kOr b ρ Q (.v (.bl false)) M ↔ WE b ρ M Q := Iff.rfl
theorem we_not : WE (eNot a) ρ M Q ↔ WE a ρ M (kNot Q) := by
  unfold WE eNot; rw [bex2]; refine exists_congr fun x => exists_congr fun y => and_congr_right fun _ => ?_
  cases x with
  | o b => exact nex2
  | v d => cases d with
    | bl p => exact sex2
    | _ => exact nex2
theorem kNot_eq {p : Bool} : kNot Q (.v (.bl p)) M ↔ Q (.v (.bl (!p))) M := Iff.rfl
theorem we_if : WE (eIf ca a b) ρ M Q ↔ WB ca ρ M (kIf a b ρ Q) := by
  unfold WE WB eIf; rw [bex2]; refine exists_congr fun x => exists_congr fun y => and_congr_right fun _ => ?_
  unfold kIf; cases x <;> exact Iff.rfl
theorem kIf_t : kIf a b ρ Q true M ↔ WE a ρ M Q := Iff.rfl
theorem kIf_f : kIf a b ρ Q false M ↔ WE b ρ M Q := Iff.rfl
theorem wb_of : WB (bOf a) ρ M QB ↔ WE a ρ M (kOf QB) := by
  unfold WE WB bOf; rw [bex2]; refine exists_congr fun x => exists_congr fun y => and_congr_right fun _ => ?_
  cases x with
  | o b => exact nex2
  | v d => cases d with
    | bl p => exact sex2
    | _ => exact nex2
theorem kOf_eq {p : Bool} : kOf QB (.v (.bl p)) M ↔ QB p M := Iff.rfl
theorem wb_and : WB (bAnd ca cb) ρ M QB ↔ WB ca ρ M (kbAnd cb ρ QB) := by
  unfold WB bAnd; rw [bex2]; refine exists_congr fun x => exists_congr fun y => and_congr_right fun _ => ?_
  unfold kbAnd; cases x <;> first | exact Iff.rfl | exact sex2
theorem kbAnd_t : kbAnd cb ρ QB true M ↔ WB cb ρ M QB := Iff.rfl
theorem kbAnd_f : kbAnd cb ρ QB false M ↔ QB false M := Iff.rfl
theorem wb_or : WB (bOr ca cb) ρ M QB ↔ WB ca ρ M (kbOr cb ρ QB) := by
  unfold WB bOr; rw [bex2]; refine exists_congr fun x => exists_congr fun y => and_congr_right fun _ => ?_
  unfold kbOr; cases x <;> first | exact Iff.rfl | exact sex2
theorem kbOr_t : kbOr cb ρ QB true M ↔ QB true M := Iff.rfl
theorem kbOr_f : kbOr cb ρ QB false M ↔ WB cb ρ M QB := Iff.rfl
theorem wb_not : WB (bNot ca) ρ M QB ↔ WB ca ρ M (kbNot QB) := by
  unfold WB bNot; rw [bex2]; refine exists_congr fun x => exists_congr fun y => and_congr_right fun _ => sex2
theorem kbNot_eq {p : Bool} : kbNot QB p M ↔ QB (!p) M := Iff.rfl
theorem wb_yes : WB bYes ρ M QB ↔ QB true M := sex2
theorem wa_nil : WA aNil ρ M QA ↔ QA [] M := sex2
theorem wa_cons : WA (aCons a fr) ρ M QA ↔ WE a ρ M (kCons1 fr ρ QA) := by
  unfold WA WE aCons; rw [bex2]; refine exists_congr fun x => exists_congr fun y => and_congr_right fun _ => ?_
  unfold kCons1 WA; rw [bex2]; refine exists_congr fun x => exists_congr fun y => and_congr_right fun _ => sex2
theorem kCons1_v : kCons1 fr ρ QA (.v d) M ↔ WA fr ρ M (kCons2 d QA) := Iff.rfl
theorem kCons1_o {o : Ob} : kCons1 fr ρ QA (.o o) M ↔ WA fr ρ (M ++ [o]) (kCons2 (.ref M.length) QA) := Iff.rfl
theorem kCons2_eq : kCons2 d QA ds M ↔ QA (d :: ds) M := Iff.rfl
theorem we_tup : WE (eTup fr) ρ M Q ↔ WA fr ρ M (kTup Q) := by
  unfold WE WA eTup; rw [bex2]; refine exists_congr fun x => exists_congr fun y => and_congr_right fun _ => ifex2
theorem kTup_eq : kTup Q ds M ↔ fits ds.length ∧ Q (.v (.tup ds)) M := Iff.rfl
theorem we_lst : WE (eLst fr) ρ M Q ↔ WA fr ρ M (kLst Q) := by
  unfold WE WA eLst; rw [bex2]; refine exists_congr fun x => exists_congr fun y => and_congr_right fun _ => ifex2
theorem kLst_eq : kLst Q ds M ↔ fits ds.length ∧ Q (.o (.lst ds)) M := Iff.rfl
theorem we_call {F : Fn} : WE (eCall F fr) ρ M Q ↔ WA fr ρ M (kCall F Q) := by unfold WE WA eCall; rw [bex2]; exact Iff.rfl
theorem kCall_eq {F : Fn} : kCall F Q ds M ↔ WO (F ds M) Q := Iff.rfl
theorem we_chain {f' : F2} : WE (eChain f f' a b c) ρ M Q ↔ WE a ρ M (kCh1 f f' b c ρ Q) := by
  unfold WE eChain; rw [bex2]; refine exists_congr fun x => exists_congr fun y => and_congr_right fun _ => ?_
  unfold kCh1 WE; rw [bex2]; refine exists_congr fun x => exists_congr fun y => and_congr_right fun _ => ?_
  unfold WO; rw [bex2]; refine exists_congr fun x3 => exists_congr fun y3 => and_congr_right fun _ => ?_
  cases x3 with
  | o b => exact nex2
  | v d => cases d with
    | bl p => cases p with
      | true => simp only [bex2]
      | false => exact sex2
    | _ => exact nex2
theorem kCh1_eq {f' : F2} : kCh1 f f' b c ρ Q x M ↔ WE b ρ M (kCh2 f f' c ρ Q x) := Iff.rfl
theorem kCh2_eq {f' : F2} : kCh2 f f' c ρ Q x y M ↔ WO (f x y M) (kCh3 f' c ρ Q y) := Iff.rfl
theorem kCh3_t {f' : F2} : kCh3 f' c ρ Q y (.v (.bl true)) M ↔ WE c ρ M (kBin2 f' y Q) := Iff.rfl
theorem kCh3_f {f' : F2} : kCh3 f' c ρ Q y (.v (.bl false)) M ↔ Q (.v (.bl false)) M := Iff.rfl
theorem itn2 {α β : Type} {p : Prop} [Decidable p] {o : Option (α × β)} {P : α → β → Prop} : (∃ r s, (if p then o else none) = some (r, s) ∧ P r s) ↔ p ∧ ∃ r s, o = some (r, s) ∧ P r s := by
  by_cases h : p <;> simp [h]
theorem we_mt1 {T : String} : WE (eMt1 T f a b) ρ M Q ↔ WE a ρ M (kMt1 T f b ρ Q) := by
  unfold WE eMt1; rw [bex2]; refine exists_congr fun x => exists_congr fun y => and_congr_right fun _ => ?_
  rw [itn2]; unfold kMt1 WE; rw [bex2]; exact Iff.rfl
theorem kMt1_eq {T : String} : kMt1 T f b ρ Q x M ↔ isTyB T x M = true ∧ WE b ρ M (kBin2 f x Q) := Iff.rfl
theorem we_mt0 {T : String} : WE (eMt0 T f1 a) ρ M Q ↔ WE a ρ M (kMt0 T f1 Q) := by
  unfold WE eMt0; rw [bex2]; refine exists_congr fun x => exists_congr fun y => and_congr_right fun _ => ?_
  rw [itn2]; exact Iff.rfl
theorem kMt0_eq {T : String} : kMt0 T f1 Q x M ↔ isTyB T x M = true ∧ WO (f1 x M) Q := Iff.rfl
theorem we_dm1 : WE (eDm1 f a b) ρ M Q ↔ WE a ρ M (kDm1 f b ρ Q) := by
  unfold WE eDm1; rw [bex2]; refine exists_congr fun x => exists_congr fun y => and_congr_right fun _ => ?_
  rw [itn2]; unfold kDm1 WE; rw [bex2]; exact Iff.rfl
theorem kDm1_eq : kDm1 f b ρ Q x M ↔ isDct x M = true ∧ WE b ρ M (kBin2 f x Q) := Iff.rfl
theorem we_dm2 : WE (eDm2 f3 a b c) ρ M Q ↔ WE a ρ M (kDm2 f3 b c ρ Q) := by
  unfold WE eDm2; rw [bex2]; refine exists_congr fun x => exists_congr fun y => and_congr_right fun _ => ?_
  rw [itn2]; unfold kDm2 WE; rw [bex2]; simp only [bex2]; exact Iff.rfl
theorem kDm2_eq : kDm2 f3 b c ρ Q x M ↔ isDct x M = true ∧ WE b ρ M (kDm2b f3 c ρ x Q) := Iff.rfl
theorem kDm2b_eq : kDm2b f3 c ρ x Q y M ↔ WE c ρ M (kF3 f3 x y Q) := Iff.rfl
theorem kF3_eq : kF3 f3 x y Q z M ↔ WO (f3 x y z M) Q := Iff.rfl
theorem we_tm1 : WE (eTm1 f a b) ρ M Q ↔ WE a ρ M (kTm1 f b ρ Q) := by
  unfold WE eTm1; rw [bex2]; refine exists_congr fun x => exists_congr fun y => and_congr_right fun _ => ?_
  unfold kTm1 WE
  cases x with
  | o b => exact nex2
  | v d => cases d with
    | tup xs => simp only [bex2]; exact Iff.rfl
    | _ => exact nex2
theorem kTm1_eq {xs : List D} : kTm1 f b ρ Q (.v (.tup xs)) M ↔ WE b ρ M (kBin2 f (.v (.tup xs)) Q) := Iff.rfl
theorem kTm1_tN {w : List Nat} : kTm1 f b ρ Q (.v (tN w)) M ↔ WE b ρ M (kBin2 f (.v (tN w)) Q) := Iff.rfl
theorem we_sl {lo hi : O} : WE (eSl a lo hi) ρ M Q ↔ WE a ρ M (kSl1 lo hi ρ Q) := by
  unfold WE eSl; rw [bex2]; refine exists_congr fun x => exists_congr fun y => and_congr_right fun _ => ?_
  unfold kSl1 WN; rw [bex2]; simp only [bex2]; exact Iff.rfl
theorem kSl1_eq {lo hi : O} : kSl1 lo hi ρ Q x M ↔ WN lo ρ M (kSl2 hi ρ Q x) := Iff.rfl
theorem kSl2_eq {hi : O} {l : Option Int} : kSl2 hi ρ Q x l M ↔ WN hi ρ M (kSl3 Q x l) := Iff.rfl
theorem kSl3_eq {l h : Option Int} : kSl3 Q x l h M ↔ WO (slF x l h M) Q := Iff.rfl
theorem wn_none : WN oNone ρ M QN ↔ QN none M := sex2
theorem wn_some : WN (oSome a) ρ M QN ↔ WE a ρ M (kSome QN) := by
  unfold WN WE oSome; rw [bex2]; refine exists_congr fun x => exists_congr fun y => and_congr_right fun _ => ?_
  cases x with
  | o b => exact nex2
  | v d => cases d with
    | int p => exact sex2
    | _ => exact nex2
theorem kSome_eq {i : Int} : kSome QN (.v (.int i)) M ↔ QN (some i) M := Iff.rfl
theorem we_comp {vs : List Nat} {t : Tg} : WE (eComp it vs t ca a) ρ M Q ↔ WI it ρ M (kComp t ca a (wipeE ρ vs) Q) := by
  unfold WE WI eComp; rw [bex2]; refine exists_congr fun x => exists_congr fun y => and_congr_right fun _ => ?_
  rw [bex2]; unfold kComp WC; refine exists_congr fun x => exists_congr fun y => and_congr_right fun _ => sex2
theorem kComp_eq {t : Tg} {xs : List D} {lv : List (Nat × Ob)} : kComp t ca a ρ Q ⟨xs, lv⟩ M ↔ WC t ca a lv ρ xs M (kOl Q) := Iff.rfl
theorem kOl_eq : kOl Q ds M ↔ Q (.o (.lst ds)) M := Iff.rfl
theorem we_rg1 {mk : List D → Out} : WE (eRg1 mk a) ρ M Q ↔ WE a ρ M (kRg1 mk Q) := by
  unfold WE eRg1; rw [bex2]; refine exists_congr fun x => exists_congr fun y => and_congr_right fun _ => ?_
  cases x with
  | o b => exact nex2
  | v d => cases d with
    | int p => exact ifex2
    | _ => exact nex2
theorem kRg1_eq {mk : List D → Out} {j : Int} : kRg1 mk Q (.v (.int j)) M ↔ rgOk j ∧ Q (mk (upto 0 j.toNat)) M := Iff.rfl
theorem we_rg2 {mk : List D → Out} : WE (eRg2 mk a b) ρ M Q ↔ WE a ρ M (kRg2a mk b ρ Q) := by
  unfold WE eRg2; rw [bex2]; refine exists_congr fun x => exists_congr fun y => and_congr_right fun _ => ?_
  rw [bex2]; unfold kRg2a WE; refine exists_congr fun x2 => exists_congr fun y2 => and_congr_right fun _ => ?_
  cases x with
  | o b => exact nex2
  | v d => cases d with
    | int p => cases x2 with
      | o b => exact nex2
      | v d2 => cases d2 with
        | int p => exact ifex2
        | _ => exact nex2
    | _ => exact nex2
theorem kRg2a_eq {mk : List D → Out} : kRg2a mk b ρ Q x M ↔ WE b ρ M (kRg2b mk Q x) := Iff.rfl
theorem kRg2b_eq {mk : List D → Out} {i j : Int} : kRg2b mk Q (.v (.int i)) (.v (.int j)) M ↔ rg2Ok i j ∧ Q (mk (upto i (j - i).toNat)) M := Iff.rfl
theorem we_dnew : WE eDnew ρ M Q ↔ Q (.o (.dcr [])) M := sex2
/-! walks -/
theorem wi_e : WI (iE a) ρ M QI ↔ WE a ρ M (kiE QI) := by
  unfold WI WE iE; rw [bex2]; refine exists_congr fun x => exists_congr fun y => and_congr_right fun _ => ?_
  unfold kiE WSrc
  constructor
  · rintro ⟨r, s, e, p⟩; obtain ⟨u, e1, e2⟩ := bind_some e; cases e2; exact ⟨_, e1, p⟩
  · rintro ⟨u, e1, p⟩; exact ⟨u, y, by simp only at e1 ⊢; rw [e1]; rfl, p⟩
theorem kiE_eq : kiE QI x M ↔ WSrc (srcOf x M) M QI := Iff.rfl
theorem wi_rg1 : WI (iRg1 a) ρ M QI ↔ WE a ρ M (kiRg1 QI) := by
  unfold WI WE iRg1; rw [bex2]; refine exists_congr fun x => exists_congr fun y => and_congr_right fun _ => ?_
  cases x with
  | o b => exact nex2
  | v d => cases d with
    | int p => exact ifex2
    | _ => exact nex2
theorem kiRg1_eq {j : Int} : kiRg1 QI (.v (.int j)) M ↔ rgOk j ∧ QI ⟨upto 0 j.toNat, []⟩ M := Iff.rfl
theorem wi_rg2 : WI (iRg2 a b) ρ M QI ↔ WE a ρ M (kiRg2a b ρ QI) := by
  unfold WI WE iRg2; rw [bex2]; refine exists_congr fun x => exists_congr fun y => and_congr_right fun _ => ?_
  rw [bex2]; unfold kiRg2a WE; refine exists_congr fun x2 => exists_congr fun y2 => and_congr_right fun _ => ?_
  cases x with
  | o b => exact nex2
  | v d => cases d with
    | int p => cases x2 with
      | o b => exact nex2
      | v d2 => cases d2 with
        | int p => exact ifex2
        | _ => exact nex2
    | _ => exact nex2
theorem kiRg2a_eq : kiRg2a b ρ QI x M ↔ WE b ρ M (kiRg2b QI x) := Iff.rfl
theorem kiRg2b_eq {i j : Int} : kiRg2b QI (.v (.int i)) (.v (.int j)) M ↔ rg2Ok i j ∧ QI ⟨upto i (j - i).toNat, []⟩ M := Iff.rfl
theorem wi_zip : WI (iZip a b) ρ M QI ↔ WE a ρ M (kiZip1 b ρ QI) := by
  unfold WI WE iZip; rw [bex2]; refine exists_congr fun x => exists_congr fun y => and_congr_right fun _ => ?_
  rw [bex2]; unfold kiZip1 WE WSrc; refine exists_congr fun x => exists_congr fun y => and_congr_right fun _ => ?_
  constructor
  · rintro ⟨r, s, e, p⟩; obtain ⟨u, e1, e2⟩ := bind_some e; cases e2; exact ⟨_, e1, p⟩
  · rintro ⟨u, e1, p⟩; exact ⟨u, y, by simp only at e1 ⊢; rw [e1]; rfl, p⟩
theorem kiZip1_eq : kiZip1 b ρ QI x M ↔ WE b ρ M (kiZip2 QI x) := Iff.rfl
theorem kiZip2_eq : kiZip2 QI x y M ↔ WSrc (zipOf x y M) M QI := Iff.rfl
theorem wi_enum : WI (iEnumE a) ρ M QI ↔ WE a ρ M (kiEnum QI) := by
  unfold WI WE iEnumE; rw [bex2]; refine exists_congr fun x => exists_congr fun y => and_congr_right fun _ => ?_
  unfold kiEnum WSrc
  constructor
  · rintro ⟨r, s, e, p⟩; obtain ⟨u, e1, e2⟩ := bind_some e; cases e2; exact ⟨_, e1, p⟩
  · rintro ⟨u, e1, p⟩; exact ⟨u, y, by simp only at e1 ⊢; rw [e1]; rfl, p⟩
theorem kiEnum_eq : kiEnum QI x M ↔ WSrc (enumOf x M) M QI := Iff.rfl
/-! targets -/
theorem wg_t {t : Tg} : WG (gT t) d ρ M QG ↔ WEnv (t.put d ρ) (kgE M QG) := by
  unfold WG gT WEnv
  constructor
  · rintro ⟨r, s, e, p⟩
    obtain ⟨u, e1, e2⟩ := Option.map_eq_some_iff.mp e
    cases e2
    exact ⟨_, e1, p⟩
  · rintro ⟨u, e1, p⟩; exact ⟨u, M, by rw [e1]; rfl, p⟩
theorem kgE_eq : kgE M QG ρ ↔ QG ρ M := Iff.rfl
theorem wg_ix : WG (gIx a b) d ρ M QG ↔ WE a ρ M (kgIx1 b d ρ QG) := by
  unfold WG WE gIx; rw [bex2]; refine exists_congr fun x => exists_congr fun y => and_congr_right fun _ => ?_
  rw [bex2]; unfold kgIx1 WE WM; refine exists_congr fun x => exists_congr fun y => and_congr_right fun _ => ?_
  constructor
  · rintro ⟨r, s, e, p⟩; obtain ⟨u, e1, e2⟩ := bind_some e; cases e2; exact ⟨_, e1, p⟩
  · rintro ⟨u, e1, p⟩; exact ⟨ρ, u, by simp only at e1 ⊢; rw [e1]; rfl, p⟩
theorem kgIx1_eq : kgIx1 b d ρ QG x M ↔ WE b ρ M (kgIx2 d ρ QG x) := Iff.rfl
theorem kgIx2_eq : kgIx2 d ρ QG x y M ↔ WM (stoF x y d M) (kgQ ρ QG) := Iff.rfl
theorem wg_dx : WG (gDx a b) d ρ M QG ↔ WE a ρ M (kgDx1 b d ρ QG) := by
  unfold WG WE gDx; rw [bex2]; refine exists_congr fun x => exists_congr fun y => and_congr_right fun _ => ?_
  rw [bex2]; unfold kgDx1 WE WM; refine exists_congr fun x => exists_congr fun y => and_congr_right fun _ => ?_
  constructor
  · rintro ⟨r, s, e, p⟩; obtain ⟨u, e1, e2⟩ := bind_some e; cases e2; exact ⟨_, e1, p⟩
  · rintro ⟨u, e1, p⟩; exact ⟨ρ, u, by simp only at e1 ⊢; rw [e1]; rfl, p⟩
theorem kgDx1_eq : kgDx1 b d ρ QG x M ↔ WE b ρ M (kgDx2 d ρ QG x) := Iff.rfl
theorem kgDx2_eq : kgDx2 d ρ QG x y M ↔ WM (dstoF x y d M) (kgQ ρ QG) := Iff.rfl
theorem kgQ_eq : kgQ ρ QG M ↔ QG ρ M := Iff.rfl
/-! statements -/
theorem ws_nil : WS sNil ρ M QS ↔ QS (.nx ρ M) := sex1
theorem ws_brk : WS sBrk ρ M QS ↔ QS (.bk ρ M) := sex1
theorem ws_cnt : WS sCnt ρ M QS ↔ QS (.ct ρ M) := sex1
theorem ws_retN : WS sRetN ρ M QS ↔ QS (.rt (.v .non) M) := sex1
theorem bexS {γ δ : Type} {o : Option γ} {h : γ → Option δ} {P : δ → Prop} : (∃ r, o.bind h = some r ∧ P r) ↔ ∃ x, o = some x ∧ ∃ r, h x = some r ∧ P r := by
  constructor
  · rintro ⟨r, e, p⟩
    obtain ⟨x, e1, e2⟩ := bind_some e
    exact ⟨x, e1, r, e2, p⟩
  · rintro ⟨x, e1, r, e2, p⟩
    exact ⟨r, by rw [e1]; exact e2, p⟩
theorem ws_seq : WS (sSeq s1 s2) ρ M QS ↔ WS s1 ρ M (kSeq s2 QS) := by
  unfold WS sSeq; rw [bexS]; refine exists_congr fun x => and_congr_right fun _ => ?_
  unfold kSeq; cases x <;> first | exact Iff.rfl | exact sex1
theorem kSeq_nx : kSeq s2 QS (.nx ρ M) ↔ WS s2 ρ M QS := Iff.rfl
theorem kSeq_rt : kSeq s2 QS (.rt x M) ↔ QS (.rt x M) := Iff.rfl
theorem kSeq_bk : kSeq s2 QS (.bk ρ M) ↔ QS (.bk ρ M) := Iff.rfl
theorem kSeq_ct : kSeq s2 QS (.ct ρ M) ↔ QS (.ct ρ M) := Iff.rfl
theorem ws_set {i : Nat} : WS (sSet i a) ρ M QS ↔ WE a ρ M (kSet i ρ QS) := by
  unfold WS WE sSet; rw [bex]; refine exists_congr fun x => exists_congr fun y => and_congr_right fun _ => sex1
theorem kSet_v {i : Nat} : kSet i ρ QS (.v d) M ↔ QS (.nx (ρ.set i (some d)) M) := Iff.rfl
theorem kSet_o {i : Nat} {o : Ob} : kSet i ρ QS (.o o) M ↔ QS (.nx (ρ.set i (some (.ref M.length))) (M ++ [o])) := Iff.rfl
theorem ws_put : WS (sPut a g) ρ M QS ↔ WE a ρ M (kPut g ρ QS) := by
  unfold WS WE sPut; rw [bex]; refine exists_congr fun x => exists_congr fun y => and_congr_right fun _ => ?_
  rw [bex]; unfold kPut WG; refine exists_congr fun x => exists_congr fun y => and_congr_right fun _ => sex1
theorem kPut_v : kPut g ρ QS (.v d) M ↔ WG g d ρ M (kNx QS) := Iff.rfl
theorem kPut_o {o : Ob} : kPut g ρ QS (.o o) M ↔ WG g (.ref M.length) ρ (M ++ [o]) (kNx QS) := Iff.rfl
theorem kNx_eq : kNx QS ρ M ↔ QS (.nx ρ M) := Iff.rfl
theorem ws_par {is : List Nat} : WS (sPar is fr) ρ M QS ↔ WA fr ρ M (kPar is ρ QS) := by
  unfold WS WA sPar; rw [bex]; refine exists_congr fun x => exists_congr fun y => and_congr_right fun _ => ?_
  rw [bexS]; unfold kPar WEnv; refine exists_congr fun x => and_congr_right fun _ => sex1
theorem kPar_eq {is : List Nat} : kPar is ρ QS ds M ↔ WEnv (setAll is ds ρ) (kNx1 QS M) := Iff.rfl
theorem kNx1_eq : kNx1 QS M ρ ↔ QS (.nx ρ M) := Iff.rfl
theorem ws_do : WS (sDo a) ρ M QS ↔ WE a ρ M (kDo ρ QS) := by
  unfold WS WE sDo; rw [bex]; refine exists_congr fun x => exists_congr fun y => and_congr_right fun _ => sex1
theorem kDo_eq : kDo ρ QS x M ↔ QS (.nx ρ M) := Iff.rfl
theorem ws_ret : WS (sRet a) ρ M QS ↔ WE a ρ M (kRet QS) := by
  unfold WS WE sRet; rw [bex]; refine exists_congr fun x => exists_congr fun y => and_congr_right fun _ => sex1
theorem kRet_eq : kRet QS x M ↔ QS (.rt x M) := Iff.rfl
theorem ws_if : WS (sIf ca s1 s2) ρ M QS ↔ WB ca ρ M (kIfS s1 s2 ρ QS) := by
  unfold WS WB sIf; rw [bex]; refine exists_congr fun x => exists_congr fun y => and_congr_right fun _ => ?_
  unfold kIfS; cases x <;> exact Iff.rfl
theorem kIfS_t : kIfS s1 s2 ρ QS true M ↔ WS s1 ρ M QS := Iff.rfl
theorem kIfS_f : kIfS s1 s2 ρ QS false M ↔ WS s2 ρ M QS := Iff.rfl
theorem ws_aug {i : Nat} : WS (sAug i f a) ρ M QS ↔ WD ρ[i]? (kAug1 i f a ρ M QS) := by
  unfold WS sAug WD
  constructor
  · rintro ⟨r, e, p⟩
    split at e
    · rename_i d hd
      refine ⟨d, hd, ?_⟩
      have := (bex (P := QS)).mp ⟨r, e, p⟩
      obtain ⟨x, y, e1, r, e2, p⟩ := this
      obtain ⟨x2, y2, e3, r2, e4, p2⟩ := (bex (P := QS)).mp ⟨r, e2, p⟩
      cases e4
      exact ⟨x, y, e1, x2, y2, e3, p2⟩
    · cases e
  · rintro ⟨d, hd, x, y, e1, x2, y2, e3, p⟩
    refine ⟨_, ?_, p⟩
    simp only [hd, e1, Option.bind_some, e3]
theorem kAug1_eq {i : Nat} : kAug1 i f a ρ M QS d ↔ WE a ρ M (kAug2 i f ρ QS d) := Iff.rfl
theorem kAug2_eq {i : Nat} : kAug2 i f ρ QS d x M ↔ WO (f (.v d) x M) (kSet i ρ QS) := Iff.rfl
theorem ws_for : WS (sFor it g s1) ρ M QS ↔ WI it ρ M (kFor g s1 ρ QS) := by
  unfold WS WI sFor; rw [bex]; exact Iff.rfl
theorem kFor_eq {xs : List D} {lv : List (Nat × Ob)} : kFor g s1 ρ QS ⟨xs, lv⟩ M ↔ WL g s1 lv xs ρ M QS := Iff.rfl
theorem ws_while : WS (sWhile ca s1) ρ M QS ↔ WH ca s1 fuel ρ M QS := Iff.rfl
theorem kTurn_nx {J : Env → Mem → Prop} : kTurn J QS (.nx ρ M) ↔ J ρ M := Iff.rfl
theorem kTurn_ct {J : Env → Mem → Prop} : kTurn J QS (.ct ρ M) ↔ J ρ M := Iff.rfl
theorem kTurn_bk {J : Env → Mem → Prop} : kTurn J QS (.bk ρ M) ↔ QS (.nx ρ M) := Iff.rfl
theorem kTurn_rt {J : Env → Mem → Prop} : kTurn J QS (.rt x M) ↔ QS (.rt x M) := Iff.rfl
theorem kG_eq : kG s1 QS ρ M ↔ WS s1 ρ M QS := Iff.rfl
/-! defs -/
theorem wo_fn {np ns : Nat} (h : ds.length = np) : WO (fnD np ns s1 ds M) Q ↔ WS s1 (ds.map some ++ List.replicate (ns - np) none) M (kFn M Q) := by
  unfold WO WS fnD
  rw [if_pos h]
  constructor
  · rintro ⟨r, M', e, p⟩
    obtain ⟨x, e1, e2⟩ := bind_some e
    refine ⟨x, e1, ?_⟩
    unfold kFn
    split at e2 <;> first | cases e2 | skip
    · rename_i x' m' ; have := Option.some.inj e2; first | (simp only; rw [this]; exact p) | (rw [this]; exact p)
    · have := Option.some.inj e2; first | (simp only; rw [this]; exact p) | (rw [this]; exact p)
  · rintro ⟨x, e1, p⟩
    cases x with
    | rt v m' => exact ⟨_, _, by rw [e1]; rfl, p⟩
    | nx v m' => exact ⟨_, _, by rw [e1]; rfl, p⟩
    | bk v m' => exact p.elim
    | ct v m' => exact p.elim
theorem kFn_rt {M0 : Mem} : kFn M0 Q (.rt x M) ↔ Q (shut M0 x M).1 (shut M0 x M).2 := Iff.rfl
theorem kFn_nx {M0 : Mem} : kFn M0 Q (.nx ρ M) ↔ Q (shut M0 (.v .non) M).1 (shut M0 (.v .non) M).2 := Iff.rfl
end
end Q
namespace Q
open PySem L2
/-! ### all rules of the machine in one word -/
theorem lgz {α : Type} {a : α} {l : List α} : (a :: l)[0]? = some a := rfl
theorem lgs {α : Type} {a : α} {l : List α} {n : Nat} : (a :: l)[n + 1]? = l[n]? := List.getElem?_cons_succ
theorem lsz {α : Type} {a b : α} {l : List α} : (a :: l).set 0 b = b :: l := rfl
theorem lss {α : Type} {a b : α} {l : List α} {n : Nat} : (a :: l).set (n + 1) b = a :: l.set n b := rfl
theorem tpn {i : Nat} {d : D} {ρ : Env} : Tg.put (.nm i) d ρ = some (ρ.set i (some d)) := rfl
theorem tpt {is : List Nat} {ds : List D} {ρ : Env} : Tg.put (.tp is) (.tup ds) ρ = setAll is ds ρ := rfl
theorem tpp {is : List Nat} {ds : List D} {ρ : Env} : Tg.put (.tp is) (.par ds) ρ = setAll is ds ρ := rfl
theorem san {ρ : Env} : setAll [] [] ρ = some ρ := rfl
theorem sac {i : Nat} {is : List Nat} {d : D} {ds : List D} {ρ : Env} : setAll (i :: is) (d :: ds) ρ = setAll is ds (ρ.set i (some d)) := rfl
theorem wpn {ρ : Env} : wipeE ρ [] = ρ := rfl
theorem wpc {ρ : Env} {v : Nat} {vs : List Nat} : wipeE ρ (v :: vs) = (wipeE ρ vs).set v none := rfl
theorem ft0 : fits ([] : List D).length := fits_of (by simp)
theorem ft1 {a : D} : fits [a].length := fits_of (by simp)
theorem ft2 {a b : D} : fits [a, b].length := fits_of (by simp)
theorem ft3 {a b c : D} : fits [a, b, c].length := fits_of (by simp)
theorem ft4 {a b c d : D} : fits [a, b, c, d].length := fits_of (by simp)
theorem ft5 {a b c d e : D} : fits [a, b, c, d, e].length := fits_of (by simp)
theorem ft6 {a b c d e f : D} : fits [a, b, c, d, e, f].length := fits_of (by simp)
theorem ft7 {a b c d e f g : D} : fits [a, b, c, d, e, f, g].length := fits_of (by simp)
def wp := And.intro @wo_some (And.intro @wsrc_some (And.intro @wm_some (And.intro @wenv_some (And.intro @wd_some (And.intro @we_var (And.intro @kV_eq (And.intro @we_c (And.intro @we_bin (And.intro @kBin1_eq (And.intro @kBin2_eq (And.intro @we_un (And.intro @kUn_eq (And.intro @we_and (And.intro @kAnd_t (And.intro @kAnd_f (And.intro @we_or (And.intro @kOr_t (And.intro @kOr_f (And.intro @we_not (And.intro @kNot_eq (And.intro @we_if (And.intro @kIf_t (And.intro @kIf_f (And.intro @wb_of (And.intro @kOf_eq (And.intro @wb_and (And.intro @kbAnd_t (And.intro @kbAnd_f (And.intro @wb_or (And.intro @kbOr_t (And.intro @kbOr_f (And.intro @wb_not (And.intro @kbNot_eq (And.intro @wb_yes (And.intro @wa_nil (And.intro @wa_cons (And.intro @kCons1_v (And.intro @kCons1_o (And.intro @kCons2_eq (And.intro @we_tup (And.intro @kTup_eq (And.intro @we_lst (And.intro @kLst_eq (And.intro @we_call (And.intro @kCall_eq (And.intro @we_chain (And.intro @kCh1_eq (And.intro @kCh2_eq (And.intro @kCh3_t (And.intro @kCh3_f (And.intro @we_mt1 (And.intro @kMt1_eq (And.intro @we_mt0 (And.intro @kMt0_eq (And.intro @we_dm1 (And.intro @kDm1_eq (And.intro @we_dm2 (And.intro @kDm2_eq (And.intro @kDm2b_eq (And.intro @kF3_eq (And.intro @we_tm1 (And.intro @kTm1_eq (And.intro @kTm1_tN (And.intro @we_sl (And.intro @kSl1_eq (And.intro @kSl2_eq (And.intro @kSl3_eq (And.intro @wn_none (And.intro @wn_some (And.intro @kSome_eq (And.intro @we_comp (And.intro @kComp_eq (And.intro @kOl_eq (And.intro @we_rg1 (And.intro @kRg1_eq (And.intro @we_rg2 (And.intro @kRg2a_eq (And.intro @kRg2b_eq (And.intro @we_dnew (And.intro @wi_e (And.intro @kiE_eq (And.intro @wi_rg1 (And.intro @kiRg1_eq (And.intro @wi_rg2 (And.intro @kiRg2a_eq (And.intro @kiRg2b_eq (And.intro @wi_zip (And.intro @kiZip1_eq (And.intro @kiZip2_eq (And.intro @wi_enum (And.intro @kiEnum_eq (And.intro @wg_t (And.intro @kgE_eq (And.intro @wg_ix (And.intro @kgIx1_eq (And.intro @kgIx2_eq (And.intro @wg_dx (And.intro @kgDx1_eq (And.intro @kgDx2_eq (And.intro @kgQ_eq (And.intro @ws_nil (And.intro @ws_brk (And.intro @ws_cnt (And.intro @ws_retN (And.intro @ws_seq (And.intro @kSeq_nx (And.intro @kSeq_rt (And.intro @kSeq_bk (And.intro @kSeq_ct (And.intro @ws_set (And.intro @kSet_v (And.intro @kSet_o (And.intro @ws_put (And.intro @kPut_v (And.intro @kPut_o (And.intro @kNx_eq (And.intro @ws_par (And.intro @kPar_eq (And.intro @kNx1_eq (And.intro @ws_do (And.intro @kDo_eq (And.intro @ws_ret (And.intro @kRet_eq (And.intro @ws_if (And.intro @kIfS_t (And.intro @kIfS_f (And.intro @ws_aug (And.intro @kAug1_eq (And.intro @kAug2_eq (And.intro @ws_for (And.intro @kFor_eq (And.intro @ws_while (And.intro @kTurn_nx (And.intro @kTurn_ct (And.intro @kTurn_bk (And.intro @kTurn_rt (@kG_eq)))))))))))))))))))))))))))))))))))))))))))))))))))))))))))))))))))))))))))))))))))))))))))))))))))))))))))))))))))))))))))))))))))))))))
def wx := And.intro @lgz (And.intro @lgs (And.intro @lsz (And.intro @lss (And.intro @tpn (And.intro @tpt (And.intro @tpp (And.intro @san (And.intro @sac (And.intro @wpn (And.intro @wpc (And.intro @ft0 (And.intro @ft1 (And.intro @ft2 (And.intro @ft3 (And.intro @ft4 (And.intro @ft5 (And.intro @ft6 (And.intro @ft7 (And.intro @true_and (And.intro @Bool.not_true @Bool.not_false))))))))))))))))))))
theorem fn_0 {ns : Nat} {s1 : S} {M : Mem} {Q : PO2} : WO (fnD 0 ns s1 [] M) Q ↔ WS s1 (List.replicate (ns - 0) none) M (kFn M Q) := wo_fn rfl
theorem fn_1 {ns : Nat} {s1 : S} {M : Mem} {Q : PO2} {a : D} : WO (fnD 1 ns s1 [a] M) Q ↔ WS s1 (some a :: List.replicate (ns - 1) none) M (kFn M Q) := wo_fn rfl
theorem fn_2 {ns : Nat} {s1 : S} {M : Mem} {Q : PO2} {a b : D} : WO (fnD 2 ns s1 [a, b] M) Q ↔ WS s1 (some a :: some b :: List.replicate (ns - 2) none) M (kFn M Q) := wo_fn rfl
theorem fn_3 {ns : Nat} {s1 : S} {M : Mem} {Q : PO2} {a b c : D} : WO (fnD 3 ns s1 [a, b, c] M) Q ↔ WS s1 (some a :: some b :: some c :: List.replicate (ns - 3) none) M (kFn M Q) := wo_fn rfl
theorem fn_4 {ns : Nat} {s1 : S} {M : Mem} {Q : PO2} {a b c d : D} : WO (fnD 4 ns s1 [a, b, c, d] M) Q ↔ WS s1 (some a :: some b :: some c :: some d :: List.replicate (ns - 4) none) M (kFn M Q) := wo_fn rfl
theorem fn_5 {ns : Nat} {s1 : S} {M : Mem} {Q : PO2} {a b c d e : D} : WO (fnD 5 ns s1 [a, b, c, d, e] M) Q ↔ WS s1 (some a :: some b :: some c :: some d :: some e :: List.replicate (ns - 5) none) M (kFn M Q) := wo_fn rfl
theorem fn_6 {ns : Nat} {s1 : S} {M : Mem} {Q : PO2} {a b c d e f : D} : WO (fnD 6 ns s1 [a, b, c, d, e, f] M) Q ↔ WS s1 (some a :: some b :: some c :: some d :: some e :: some f :: List.replicate (ns - 6) none) M (kFn M Q) := wo_fn rfl
theorem fn_7 {ns : Nat} {s1 : S} {M : Mem} {Q : PO2} {a b c d e f g : D} : WO (fnD 7 ns s1 [a, b, c, d, e, f, g] M) Q ↔ WS s1 (some a :: some b :: some c :: some d :: some e :: some f :: some g :: List.replicate (ns - 7) none) M (kFn M Q) := wo_fn rfl
theorem fn_8 {ns : Nat} {s1 : S} {M : Mem} {Q : PO2} {a b c d e f g h : D} : WO (fnD 8 ns s1 [a, b, c, d, e, f, g, h] M) Q ↔ WS s1 (some a :: some b :: some c :: some d :: some e :: some f :: some g :: some h :: List.replicate (ns - 8) none) M (kFn M Q) := wo_fn rfl
theorem rp_s {n : Nat} : List.replicate (n + 1) (none : Option D) = none :: List.replicate n none := rfl
theorem rp_z : List.replicate 0 (none : Option D) = [] := rfl
def wf := And.intro @fn_0 (And.intro @fn_1 (And.intro @fn_2 (And.intro @fn_3 (And.intro @fn_4 (And.intro @fn_5 (And.intro @fn_6 (And.intro @fn_7 (And.intro @fn_8 (And.intro @rp_s (@rp_z))))))))))
end Q
namespace Q
open PySem L2
/-! ### ends of defs -/
def kIs (d : D) (M0 : Mem) (x : Out) (M : Mem) : Prop := x = .v d ∧ M = M0
theorem wo_eq {o : Option (Out × Mem)} {d : D} {M : Mem} (h : WO o (kIs d M)) : o = some (.v d, M) := by
  obtain ⟨r, M', e, rfl, rfl⟩ := h; exact e
theorem we_eq {e : E} {ρ : Env} {d : D} {M M0 : Mem} (h : WE e ρ M (kIs d M0)) : e ρ M = some (.v d, M0) := by
  obtain ⟨r, M', e, rfl, rfl⟩ := h; exact e
def kIsO (b : Ob) (M0 : Mem) (x : Out) (M : Mem) : Prop := x = .o b ∧ M = M0
theorem wo_eqO {o : Option (Out × Mem)} {d : Ob} {M : Mem} (h : WO o (kIsO d M)) : o = some (.o d, M) := by
  obtain ⟨r, M', e, rfl, rfl⟩ := h; exact e
theorem wo_ex {o : Option (Out × Mem)} {P : PO2} (h : WO o P) : ∃ r M, o = some (r, M) ∧ P r M := h
theorem WO.mono {o : Option (Out × Mem)} {P Q : PO2} (h : WO o P) (k : ∀ r M, P r M → Q r M) : WO o Q := by
  obtain ⟨r, M, e, p⟩ := h; exact ⟨r, M, e, k r M p⟩
theorem WS.mono {s : S} {ρ : Env} {M : Mem} {P Q : R → Prop} (h : WS s ρ M P) (k : ∀ r, P r → Q r) : WS s ρ M Q := by
  obtain ⟨r, e, p⟩ := h; exact ⟨r, e, k r p⟩
section
variable {M : Mem} {Q : PO2} {d : D} {b : Ob} {e : Mem}
theorem kFn_v (h : d.lo M.length) : kFn M Q (.rt (.v d) M) ↔ Q (.v d) M := by rw [kFn_rt, shut_s h]
theorem kFn_va (h : d.lo M.length) : kFn M Q (.rt (.v d) (M ++ e)) ↔ Q (.v d) M := by rw [kFn_rt, shut_v h]
theorem kFn_o (h : b.lo M.length) : kFn M Q (.rt (.o b) M) ↔ Q (.o b) M := by rw [kFn_rt, shut_os h]
theorem kFn_oa (h : b.lo M.length) : kFn M Q (.rt (.o b) (M ++ e)) ↔ Q (.o b) M := by rw [kFn_rt, shut_o h]
theorem kFn_ra {k : Nat} (hk : M.length ≤ k) (he : (M ++ e)[k]? = some b) (h : b.lo M.length) : kFn M Q (.rt (.v (.ref k)) (M ++ e)) ↔ Q (.o b) M := by
  rw [kFn_rt]
  unfold shut
  rw [if_pos (okM_app M e)]
  have h2 : ¬ D.lo M.length (.ref k) := by simp; exact hk
  simp only [if_neg h2, he, if_pos h, List.take_left]
theorem kFn_na {ρ : Env} : kFn M Q (.nx ρ (M ++ e)) ↔ Q (.v .non) M := by rw [kFn_nx, shut_v (by simp)]
theorem kFn_n {ρ : Env} : kFn M Q (.nx ρ M) ↔ Q (.v .non) M := by rw [kFn_nx, shut_s (by simp)]
end
/-! ### memory behind the memory -/
theorem gm0 {M e : Mem} : (M ++ e)[M.length]? = e[0]? := by rw [List.getElem?_append_right (Nat.le_refl _), Nat.sub_self]
theorem gmk {M e : Mem} {k : Nat} : (M ++ e)[M.length + k]? = e[k]? := by rw [List.getElem?_append_right (by omega)]; congr 1; omega
theorem sm0 {M e : Mem} {o : Ob} : (M ++ e).set M.length o = M ++ e.set 0 o := by rw [List.set_append_right _ _ (Nat.le_refl _), Nat.sub_self]
theorem smk {M e : Mem} {o : Ob} {k : Nat} : (M ++ e).set (M.length + k) o = M ++ e.set k o := by rw [List.set_append_right _ _ (by omega)]; congr 2; omega
theorem lapp {M e : Mem} : (M ++ e).length = M.length + e.length := List.length_append
theorem lcon {o : Ob} {e : Mem} : (o :: e).length = e.length + 1 := rfl
theorem lnil : ([] : Mem).length = 0 := rfl
theorem aas {M e f : Mem} : M ++ e ++ f = M ++ (e ++ f) := List.append_assoc _ _ _
theorem aco {o : Ob} {e f : Mem} : (o :: e) ++ f = o :: (e ++ f) := rfl
theorem ani {f : Mem} : ([] : Mem) ++ f = f := rfl
theorem nz {n : Nat} : 0 + n = n := Nat.zero_add n
def wm := And.intro @gm0 (And.intro @gmk (And.intro @sm0 (And.intro @smk (And.intro @lapp (And.intro @lcon (And.intro @lnil (And.intro @aas (And.intro @aco (And.intro @ani @nz)))))))))
/-! ### loops -/
theorem WG.ex {g : G} {d : D} {ρ : Env} {M : Mem} {P : Env → Mem → Prop} (h : WG g d ρ M P) : ∃ r M', g d ρ M = some (r, M') ∧ P r M' := h
theorem wl_inv {g : G} {body : S} {lv : List (Nat × Ob)} {xs : List D} {ρ : Env} {M : Mem} {Q : R → Prop} (J : Nat → Env → Mem → Prop) (h0 : J 0 ρ M) (hl : ∀ i ρ M, i ≤ xs.length → J i ρ M → chk lv M)
    (step : ∀ i x ρ M, xs[i]? = some x → J i ρ M → WG g x ρ M (kG body (kTurn (J (i + 1)) Q))) (done : ∀ ρ M, J xs.length ρ M → Q (.nx ρ M)) : WL g body lv xs ρ M Q := by
  have h : ∀ (n k : Nat) (ρ : Env) (M : Mem), n + k = xs.length → J k ρ M → ∃ r, forL g body lv (xs.drop k) ρ M = some r ∧ Q r := by
    intro n
    induction n with
    | zero =>
      intro k ρ M e j
      rw [List.drop_eq_nil_of_le (by omega), forL, if_pos (hl k ρ M (by omega) j)]
      exact ⟨_, rfl, done ρ M (by rw [show xs.length = k by omega]; exact j)⟩
    | succ n ih =>
      intro k ρ M e j
      have hk : k < xs.length := by omega
      rw [List.drop_eq_getElem_cons hk, forL, if_pos (hl k ρ M (by omega) j)]
      obtain ⟨ρ1, M1, e1, r, e2, p⟩ := step k _ ρ M (List.getElem?_eq_getElem hk) j
      simp only [e1, Option.bind_some, e2]
      cases r with
      | nx ρ2 M2 => exact ih (k + 1) ρ2 M2 (by omega) p
      | ct ρ2 M2 => exact ih (k + 1) ρ2 M2 (by omega) p
      | bk ρ2 M2 => exact ⟨_, rfl, p⟩
      | rt v M2 => exact ⟨_, rfl, p⟩
  have := h xs.length 0 ρ M (by omega) h0
  rw [List.drop_zero] at this
  exact this
theorem chk_nil {M : Mem} : chk [] M := fun p hp => by simp at hp
theorem chk_one {n : Nat} {xs : List D} {M : Mem} (h : M[n]? = some (.lst xs)) : chk [(n, .lst xs)] M := fun p hp => by simp at hp; subst hp; exact h
/-- over a typed list -/
theorem wl_typ {α : Type} (emb : α → D) (ys : List α) {g : G} {body : S} {ρ : Env} {M : Mem} {Q : R → Prop} (J : Nat → Env → Mem → Prop) (h0 : J 0 ρ M)
    (step : ∀ i (hi : i < ys.length) ρ M, J i ρ M → WG g (emb ys[i]) ρ M (kG body (kTurn (J (i + 1)) Q))) (done : ∀ ρ M, J ys.length ρ M → Q (.nx ρ M)) : WL g body [] (ys.map emb) ρ M Q :=
  wl_inv J h0 (fun _ _ _ _ _ => chk_nil) (fun i x ρ M hx j => by
    rw [List.getElem?_map] at hx
    obtain ⟨y, e1, rfl⟩ := Option.map_eq_some_iff.mp hx
    obtain ⟨hi, rfl⟩ := List.getElem?_eq_some_iff.mp e1
    exact step i hi ρ M j) (by rw [List.length_map]; exact done)
theorem wl_typl {α : Type} (emb : α → D) (ys : List α) {g : G} {body : S} {n : Nat} {ρ : Env} {M : Mem} {Q : R → Prop} (J : Nat → Env → Mem → Prop) (h0 : J 0 ρ M) (hl : ∀ i ρ M, J i ρ M → M[n]? = some (.lst (ys.map emb)))
    (step : ∀ i (hi : i < ys.length) ρ M, J i ρ M → WG g (emb ys[i]) ρ M (kG body (kTurn (J (i + 1)) Q))) (done : ∀ ρ M, J ys.length ρ M → Q (.nx ρ M)) : WL g body [(n, .lst (ys.map emb))] (ys.map emb) ρ M Q :=
  wl_inv J h0 (fun i ρ M _ j => chk_one (hl i ρ M j)) (fun i x ρ M hx j => by
    rw [List.getElem?_map] at hx
    obtain ⟨y, e1, rfl⟩ := Option.map_eq_some_iff.mp hx
    obtain ⟨hi, rfl⟩ := List.getElem?_eq_some_iff.mp e1
    exact step i hi ρ M j) (by rw [List.length_map]; exact done)
theorem wl_rg {lo : Int} {n : Nat} {g : G} {body : S} {ρ : Env} {M : Mem} {Q : R → Prop} (J : Nat → Env → Mem → Prop) (h0 : J 0 ρ M)
    (step : ∀ i ρ M, i < n → J i ρ M → WG g (.int (lo + (i : Int))) ρ M (kG body (kTurn (J (i + 1)) Q))) (done : ∀ ρ M, J n ρ M → Q (.nx ρ M)) : WL g body [] (upto lo n) ρ M Q :=
  wl_inv J h0 (fun _ _ _ _ _ => chk_nil) (fun i x ρ M hx j => by
    obtain ⟨hi, rfl⟩ := upto_get hx
    exact step i ρ M hi j) (by rw [upto_len]; exact done)
theorem wl_rg0 {n : Nat} {g : G} {body : S} {ρ : Env} {M : Mem} {Q : R → Prop} (J : Nat → Env → Mem → Prop) (h0 : J 0 ρ M)
    (step : ∀ i ρ M, i < n → J i ρ M → WG g (.int (i : Int)) ρ M (kG body (kTurn (J (i + 1)) Q))) (done : ∀ ρ M, J n ρ M → Q (.nx ρ M)) : WL g body [] (upto 0 n) ρ M Q :=
  wl_rg J h0 (fun i ρ M hi j => by rw [Int.zero_add]; exact step i ρ M hi j) done
def kWh (body : S) (J : Env → Mem → Prop) (Q : R → Prop) (ρ : Env) (b : Bool) (M : Mem) : Prop := match b with | true => WS body ρ M (kTurn J Q) | false => Q (.nx ρ M)
theorem kWh_t {body : S} {J : Env → Mem → Prop} {Q : R → Prop} {ρ : Env} {M : Mem} : kWh body J Q ρ true M ↔ WS body ρ M (kTurn J Q) := Iff.rfl
theorem kWh_f {body : S} {J : Env → Mem → Prop} {Q : R → Prop} {ρ : Env} {M : Mem} : kWh body J Q ρ false M ↔ Q (.nx ρ M) := Iff.rfl
theorem wh_inv {c : B} {body : S} {n n0 : Nat} {ρ : Env} {M : Mem} {Q : R → Prop} (J : Nat → Env → Mem → Prop) (hn : n0 < n) (h0 : J n0 ρ M)
    (step : ∀ k ρ M, J k ρ M → WB c ρ M (kWh body (fun ρ M => ∃ k', k' < k ∧ J k' ρ M) Q ρ)) : WH c body n ρ M Q := by
  induction n generalizing n0 ρ M with
  | zero => omega
  | succ n ih =>
    obtain ⟨b, M1, e1, p⟩ := step n0 ρ M h0
    unfold WH whL
    simp only [e1, Option.bind_some]
    cases b with
    | false => exact ⟨_, rfl, p⟩
    | true =>
      obtain ⟨r, e2, p⟩ := p
      simp only [e2, Option.bind_some]
      cases r with
      | nx ρ2 M2 => obtain ⟨k', hk, j⟩ := p; exact ih (by omega) j
      | ct ρ2 M2 => obtain ⟨k', hk, j⟩ := p; exact ih (by omega) j
      | bk ρ2 M2 => exact ⟨_, rfl, p⟩
      | rt v M2 => exact ⟨_, rfl, p⟩
theorem wfu {c : B} {body : S} {n0 : Nat} {ρ : Env} {M : Mem} {Q : R → Prop} (J : Nat → Env → Mem → Prop) (hn : n0 < 1000000000) (h0 : J n0 ρ M)
    (step : ∀ k ρ M, J k ρ M → WB c ρ M (kWh body (fun ρ M => ∃ k', k' < k ∧ J k' ρ M) Q ρ)) : WH c body fuel ρ M Q := wh_inv J hn h0 step
/-! ### comprehensions -/
def kcV (J : List D → Mem → Prop) (acc : List D) (x : Out) (M : Mem) : Prop := J (acc ++ [(val x M).1]) (val x M).2
def kcB (f : E) (ρ : Env) (J : List D → Mem → Prop) (acc : List D) (b : Bool) (M : Mem) : Prop := match b with | true => WE f ρ M (kcV J acc) | false => J acc M
def kcT (c : B) (f : E) (J : List D → Mem → Prop) (acc : List D) (M : Mem) (ρ : Env) : Prop := WB c ρ M (kcB f ρ J acc)
section
variable {c : B} {f : E} {J : List D → Mem → Prop} {acc : List D} {M : Mem} {ρ : Env} {d : D} {b : Ob}
theorem kcV_v : kcV J acc (.v d) M ↔ J (acc ++ [d]) M := Iff.rfl
theorem kcV_o : kcV J acc (.o b) M ↔ J (acc ++ [.ref M.length]) (M ++ [b]) := Iff.rfl
theorem kcB_t : kcB f ρ J acc true M ↔ WE f ρ M (kcV J acc) := Iff.rfl
theorem kcB_f : kcB f ρ J acc false M ↔ J acc M := Iff.rfl
theorem kcT_eq : kcT c f J acc M ρ ↔ WB c ρ M (kcB f ρ J acc) := Iff.rfl
end
theorem wc_inv {t : Tg} {c : B} {f : E} {lv : List (Nat × Ob)} {ρ : Env} {xs : List D} {M : Mem} {Q : List D → Mem → Prop} (J : Nat → List D → Mem → Prop) (h0 : J 0 [] M) (hl : ∀ i acc M, i ≤ xs.length → J i acc M → chk lv M)
    (step : ∀ i x acc M, xs[i]? = some x → J i acc M → WEnv (t.put x ρ) (kcT c f (J (i + 1)) acc M)) (done : ∀ acc M, J xs.length acc M → Q acc M) : WC t c f lv ρ xs M Q := by
  have h : ∀ (n k : Nat) (acc : List D) (M : Mem), n + k = xs.length → J k acc M → ∃ r M', cmpL t c f lv ρ (xs.drop k) M = some (r, M') ∧ Q (acc ++ r) M' := by
    intro n
    induction n with
    | zero =>
      intro k acc M e j
      rw [List.drop_eq_nil_of_le (by omega), cmpL, if_pos (hl k acc M (by omega) j)]
      exact ⟨_, _, rfl, by rw [List.append_nil]; exact done acc M (by rw [show xs.length = k by omega]; exact j)⟩
    | succ n ih =>
      intro k acc M e j
      have hk : k < xs.length := by omega
      rw [List.drop_eq_getElem_cons hk, cmpL, if_pos (hl k acc M (by omega) j)]
      obtain ⟨ρ1, e1, b, M1, e2, p⟩ := step k _ acc M (List.getElem?_eq_getElem hk) j
      simp only [e1, Option.bind_some, e2]
      cases b with
      | false => exact ih (k + 1) acc M1 (by omega) p
      | true =>
        obtain ⟨x, M2, e3, p⟩ := p
        obtain ⟨r, M', e4, q⟩ := ih (k + 1) _ _ (by omega) p
        simp only [e3, Option.bind_some, e4]
        exact ⟨_, _, rfl, by rw [List.append_assoc] at q; exact q⟩
  exact h xs.length 0 [] M (by omega) h0
theorem WC.mono {t : Tg} {c : B} {f : E} {lv : List (Nat × Ob)} {ρ : Env} {xs : List D} {M : Mem} {P Q : List D → Mem → Prop} (h : WC t c f lv ρ xs M P) (k : ∀ r M, P r M → Q r M) : WC t c f lv ρ xs M Q := by
  obtain ⟨r, M', e, p⟩ := h; exact ⟨r, M', e, k _ _ p⟩
/-- elements that change nothing -/
theorem wc_map {α : Type} (emb h : α → D) (ys : List α) {t : Tg} {f : E} {ρ : Env} {M : Mem} {Q : List D → Mem → Prop} (step : ∀ y ∈ ys, WEnv (t.put (emb y) ρ) fun ρ' => WE f ρ' M (kIs (h y) M)) (done : Q (ys.map h) M) : WC t bYes f [] ρ (ys.map emb) M Q := by
  refine wc_inv (fun i acc M' => acc = (ys.map h).take i ∧ M' = M) ⟨by simp, rfl⟩ (fun _ _ _ _ _ => chk_nil) (fun i x acc M' hx j => ?_) (fun acc M' j => ?_)
  · obtain ⟨rfl, rfl⟩ := j
    rw [List.getElem?_map] at hx
    obtain ⟨y, e1, rfl⟩ := Option.map_eq_some_iff.mp hx
    obtain ⟨hi, rfl⟩ := List.getElem?_eq_some_iff.mp e1
    obtain ⟨ρ', e2, r, M', e3, rfl, rfl⟩ := step ys[i] (List.getElem_mem hi)
    refine ⟨ρ', e2, true, M', rfl, _, _, e3, ?_, rfl⟩
    rw [List.take_add_one]
    simp [hi]
  · obtain ⟨rfl, rfl⟩ := j
    rw [List.take_of_length_le (by simp)]
    exact done
theorem wc_flt {α : Type} (emb h : α → D) (p : α → Bool) (ys : List α) {t : Tg} {c : B} {f : E} {ρ : Env} {M : Mem} {Q : List D → Mem → Prop}
    (step : ∀ y ∈ ys, WEnv (t.put (emb y) ρ) fun ρ' => c ρ' M = some (p y, M) ∧ (p y = true → WE f ρ' M (kIs (h y) M))) (done : Q ((ys.filter p).map h) M) : WC t c f [] ρ (ys.map emb) M Q := by
  refine wc_inv (fun i acc M' => acc = ((ys.take i).filter p).map h ∧ M' = M) ⟨by simp, rfl⟩ (fun _ _ _ _ _ => chk_nil) (fun i x acc M' hx j => ?_) (fun acc M' j => ?_)
  · obtain ⟨rfl, rfl⟩ := j
    rw [List.getElem?_map] at hx
    obtain ⟨y, e1, rfl⟩ := Option.map_eq_some_iff.mp hx
    obtain ⟨hi, rfl⟩ := List.getElem?_eq_some_iff.mp e1
    obtain ⟨ρ', e2, e4, h3⟩ := step ys[i] (List.getElem_mem hi)
    refine ⟨ρ', e2, _, M', e4, ?_⟩
    cases hp : p ys[i] with
    | true =>
      obtain ⟨r, M', e3, rfl, rfl⟩ := h3 hp
      refine ⟨_, _, e3, ?_, rfl⟩
      rw [List.take_add_one, List.filter_append, List.map_append]
      simp [hi, hp]
    | false =>
      refine ⟨?_, rfl⟩
      rw [List.take_add_one, List.filter_append, List.map_append]
      simp [hi, hp]
  · obtain ⟨rfl, rfl⟩ := j
    rw [List.length_map, List.take_length]
    exact done
theorem wb_eq {c : B} {ρ : Env} {M : Mem} {p : Bool} (h : WB c ρ M fun b M' => b = p ∧ M' = M) : c ρ M = some (p, M) := by
  obtain ⟨r, M', e, rfl, rfl⟩ := h; exact e
def wc := And.intro @kcV_v (And.intro @kcV_o (And.intro @kcB_t (And.intro @kcB_f (And.intro @kcT_eq (And.intro @kWh_t @kWh_f)))))
end Q
namespace Q
open PySem L2
section
variable {st : D} {ab : List Nat} {S : Mem → Prop} {nx : Fn}
/-- a draw -/
theorem Gen.w (g : Gen st ab S nx) {M : Mem} (h : S M) {n : Nat} (hn : 0 < n) (hn2 : n ≤ 100000) {K : PO2} (k : ∀ (r : Nat) (M' : Mem), r < n → S M' → Fr ab M M' → K (.v (.int (r : Int))) M') : WO (nx [st, .int (n : Int)] M) K := by
  obtain ⟨r, M', e, q, s, f⟩ := g.next M n h hn hn2
  exact ⟨_, _, e, k r M' q s f⟩
/-- a comprehension whose elements are made by draws -/
theorem Gen.wc {α : Type} (g : Gen st ab S nx) (emb : α → D) (P : Nat → α → Prop) {t : Tg} {f : E} {ρ : Env} {xs : List D} {M : Mem} {Q : List D → Mem → Prop} (h : S M)
    (hE : ∀ i x, xs[i]? = some x → WEnv (t.put x ρ) fun ρ' => ∀ M, S M → WE f ρ' M fun o M' => ∃ a, o = .v (emb a) ∧ P i a ∧ S M' ∧ Fr ab M M')
    (k : ∀ (ys : List α) (M' : Mem), ys.length = xs.length → (∀ i (hi : i < ys.length), P i ys[i]) → S M' → Fr ab M M' → Q (ys.map emb) M') : WC t bYes f [] ρ xs M Q := by
  refine wc_inv (fun i acc M' => ∃ ys : List α, acc = ys.map emb ∧ ys.length = i ∧ (∀ j (hj : j < ys.length), P j ys[j]) ∧ S M' ∧ Fr ab M M') ⟨[], rfl, rfl, fun j hj => by simp at hj, h, Fr.refl _ _⟩ (fun _ _ _ _ _ => chk_nil) (fun i x acc M1 hx j => ?_) (fun acc M1 j => ?_)
  · obtain ⟨ys, rfl, hl, hp, s1, f1⟩ := j
    obtain ⟨ρ', e1, h2⟩ := hE i x hx
    obtain ⟨o, M2, e2, a, rfl, pa, s2, f2⟩ := h2 M1 s1
    refine ⟨ρ', e1, true, M1, rfl, _, _, e2, ys ++ [a], by simp, by simp [hl], fun j hj => ?_, s2, f1.trans f2⟩
    simp only [List.length_append, List.length_cons, List.length_nil] at hj
    by_cases hj2 : j < ys.length
    · rw [List.getElem_append_left hj2]; exact hp j hj2
    · have : j = ys.length := by omega
      subst this
      rw [List.getElem_append_right (Nat.le_refl _)]
      simp only [Nat.sub_self, List.getElem_cons_zero]
      rw [hl]; exact pa
  · obtain ⟨ys, rfl, hl, hp, s1, f1⟩ := j
    exact k ys M1 hl hp s1 f1
/-- a comprehension of draws below n -/
theorem Gen.wds (g : Gen st ab S nx) {n : Nat} (hn : 0 < n) (hn2 : n ≤ 100000) {t : Tg} {f : E} {ρ : Env} {xs : List D} {M : Mem} {Q : List D → Mem → Prop} (h : S M)
    (hE : ∀ x ∈ xs, WEnv (t.put x ρ) fun ρ' => ∀ (M : Mem) (K : PO2), WO (nx [st, .int (n : Int)] M) K → WE f ρ' M K)
    (k : ∀ (w : List Nat) (M' : Mem), w.length = xs.length → (∀ r ∈ w, r < n) → S M' → Fr ab M M' → Q (nats w) M') : WC t bYes f [] ρ xs M Q := by
  refine g.wc (fun (r : Nat) => D.int (r : Int)) (fun _ r => r < n) h (fun i x hx => ?_) (fun ys M' hl hp s f => k ys M' hl (fun r hr => ?_) s f)
  · obtain ⟨ρ', e1, h2⟩ := hE x (List.mem_of_getElem? hx)
    refine ⟨ρ', e1, fun M s => h2 M _ (g.w s hn hn2 fun r M' q s' f' => ⟨r, rfl, q, s', f'⟩)⟩
  · obtain ⟨i, hi, rfl⟩ := List.getElem_of_mem hr
    exact hp i hi
/-- a def's end behind draws -/
theorem Gen.kFn (g : Gen st ab S nx) {M M' : Mem} {d : D} {K : PO2} (f : Fr ab M M') (s : S M') (hd : d.lo M.length) : Q.kFn M K (.rt (.v d) M') ↔ K (.v d) M' := by rw [kFn_rt, g.shutS f s hd]
theorem Gen.kFna (g : Gen st ab S nx) {M M' e : Mem} {d : D} {K : PO2} (f : Fr ab M M') (s : S M') (hd : d.lo M.length) : Q.kFn M K (.rt (.v d) (M' ++ e)) ↔ K (.v d) M' := by rw [kFn_rt, g.shut f s hd]
end
theorem mkT_rg {n : Nat} : mkT (upto 0 n) = .v (tN (List.range n)) := by rw [mkT, upto_nats]; rfl
theorem mkL_rg {n : Nat} : mkL (upto 0 n) = .o (.lst (nats (List.range n))) := by rw [mkL, upto_nats]
theorem src_ref {n : Nat} {xs : List D} {M : Mem} (h : M[n]? = some (.lst xs)) : srcOf (.v (.ref n)) M = some ⟨xs, [(n, .lst xs)]⟩ := by simp [srcOf, h]
theorem isT_ref {n : Nat} {xs : List D} {M : Mem} (h : M[n]? = some (.lst xs)) : isTyB "list" (.v (.ref n)) M = true := by simp [isTyB, h]
theorem isT_ol {xs : List D} {M : Mem} : isTyB "list" (.o (.lst xs)) M = true := by simp [isTyB]
theorem isT_str {s : Str} {M : Mem} : isTyB "str" (.v (.str s)) M = true := by simp [isTyB]
/-- the law's end -/
theorem law_of {F : Fn} (ns : List Int) (h : WO (F [.fl (ns.map .int)] []) fun r _ => r = .v (.bl true)) : ∃ m', F [.fl (ns.map .int)] [] = some (.v (.bl true), m') := by
  obtain ⟨r, M, e, rfl⟩ := h; exact ⟨M, e⟩
theorem law_ofT {F : Fn} (ns : List Int) {M0 : Mem} (h : WO (F [.fl (ns.map .int)] M0) fun r _ => r = .v (.bl true)) : ∃ m', F [.fl (ns.map .int)] M0 = some (.v (.bl true), m') := by
  obtain ⟨r, M, e, rfl⟩ := h; exact ⟨M, e⟩
theorem law_finT {M0 M : Mem} {b : Bool} (h : b = true) : kFn M0 (fun r _ => r = .v (.bl true)) (.rt (.v (.bl b)) M) := by
  subst h
  rw [kFn_rt]
  unfold shut
  split
  · simp [D.lo]
  · rfl
theorem law_fin {M : Mem} {b : Bool} (h : b = true) : kFn [] (fun r _ => r = .v (.bl true)) (.rt (.v (.bl b)) M) := by
  subst h
  rw [kFn_rt, law_shut _ _ (lo_bl 0 true ▸ trivial)]
end Q
namespace Q
open PySem L2
/-! ### the machine's rules for further things -/
def kMt2 (T : String) (f : F3) (b c : E) (ρ : Env) (Q : PO2) (x : Out) (M : Mem) : Prop := isTyB T x M = true ∧ WE b ρ M fun y M => WE c ρ M fun z M => WO (f x y z M) Q
def WK (o : Option (List (D × D))) (Q : List (D × D) → Prop) : Prop := ∃ s, o = some s ∧ Q s
def kKd (Q : PO2) (ds : List D) (M : Mem) : Prop := ∃ kvs, pairsK ds = some kvs ∧ kvs.length ≤ 15 ∧ Q (.o (.dct kvs)) M
def kKd2 (Q : PO2) (M : Mem) (kvs : List (D × D)) : Prop := kvs.length ≤ 15 ∧ Q (.o (.dct kvs)) M
def kKp1 (o i : E) (ρ : Env) (Q : R → Prop) (x : Out) (M : Mem) : Prop := WE o ρ (val x M).2 fun y M' => WE i ρ M' fun z M'' => WM (kstoF y z (val x M).1 M'') fun M3 => Q (.nx ρ M3)
def kKp2 (i : E) (d : D) (ρ : Env) (Q : R → Prop) (y : Out) (M : Mem) : Prop := WE i ρ M fun z M'' => WM (kstoF y z d M'') fun M3 => Q (.nx ρ M3)
def kKp3 (d : D) (ρ : Env) (Q : R → Prop) (y : Out) (z : Out) (M : Mem) : Prop := WM (kstoF y z d M) fun M3 => Q (.nx ρ M3)
def kNxM (ρ : Env) (Q : R → Prop) (M : Mem) : Prop := Q (.nx ρ M)
section
variable {a b c : E} {fr : A} {ρ : Env} {M : Mem} {Q : PO2} {QS : R → Prop} {f3 : F3} {x y z : Out} {d : D} {ds : List D} {kvs : List (D × D)}
theorem we_mt2 {T : String} : WE (eMt2 T f3 a b c) ρ M Q ↔ WE a ρ M (kMt2 T f3 b c ρ Q) := by
  unfold WE eMt2; rw [bex2]; refine exists_congr fun x => exists_congr fun y => and_congr_right fun _ => ?_
  rw [itn2]; unfold kMt2 WE; rw [bex2]; simp only [bex2]; exact Iff.rfl
theorem kMt2_eq {T : String} : kMt2 T f3 b c ρ Q x M ↔ isTyB T x M = true ∧ WE b ρ M (kDm2b f3 c ρ x Q) := Iff.rfl
theorem we_knew : WE eKnew ρ M Q ↔ Q (.o (.dct [])) M := sex2
theorem wk_some {P : List (D × D) → Prop} : WK (some kvs) P ↔ P kvs := ⟨fun ⟨_, e, h⟩ => by cases e; exact h, fun h => ⟨_, rfl, h⟩⟩
theorem we_kd : WE (eKd fr) ρ M Q ↔ WA fr ρ M (kKd Q) := by
  unfold WE WA eKd; rw [bex2]; refine exists_congr fun x => exists_congr fun y => and_congr_right fun _ => ?_
  unfold kKd
  constructor
  · rintro ⟨r, s, e, p⟩
    obtain ⟨kvs, e1, e2⟩ := bind_some e
    split at e2
    · rename_i h; cases e2; exact ⟨_, e1, h, p⟩
    · cases e2
  · rintro ⟨kvs, e1, h, p⟩
    exact ⟨_, _, by simp only at e1 ⊢; rw [e1, Option.bind_some, if_pos h], p⟩
theorem kKd_eq : kKd Q ds M ↔ WK (pairsK ds) (kKd2 Q M) := Iff.rfl
theorem kKd2_eq : kKd2 Q M kvs ↔ kvs.length ≤ 15 ∧ Q (.o (.dct kvs)) M := Iff.rfl
theorem ws_kput : WS (sKput a b c) ρ M QS ↔ WE a ρ M (kKp1 b c ρ QS) := by
  unfold WS WE sKput; rw [bex]; refine exists_congr fun x => exists_congr fun y => and_congr_right fun _ => ?_
  rw [bex]; unfold kKp1 WE; refine exists_congr fun x => exists_congr fun y => and_congr_right fun _ => ?_
  rw [bex]; refine exists_congr fun x => exists_congr fun y => and_congr_right fun _ => ?_
  rw [bexS]; unfold WM; refine exists_congr fun x => and_congr_right fun _ => sex1
theorem kKp1_v : kKp1 b c ρ QS (.v d) M ↔ WE b ρ M (kKp2 c d ρ QS) := Iff.rfl
theorem kKp1_o {o : Ob} : kKp1 b c ρ QS (.o o) M ↔ WE b ρ (M ++ [o]) (kKp2 c (.ref M.length) ρ QS) := Iff.rfl
theorem kKp2_eq : kKp2 c d ρ QS y M ↔ WE c ρ M (kKp3 d ρ QS y) := Iff.rfl
theorem kKp3_eq : kKp3 d ρ QS y z M ↔ WM (kstoF y z d M) (kNxM ρ QS) := Iff.rfl
theorem kNxM_eq : kNxM ρ QS M ↔ QS (.nx ρ M) := Iff.rfl
end
def wq := And.intro @we_mt2 (And.intro @kMt2_eq (And.intro @we_knew (And.intro @wk_some (And.intro @we_kd (And.intro @kKd_eq (And.intro @kKd2_eq (And.intro @ws_kput (And.intro @kKp1_v (And.intro @kKp1_o (And.intro @kKp2_eq (And.intro @kKp3_eq @kNxM_eq)))))))))))
end Q
/-! zip whose pairs are kept: walked to one name, and list(zip(a, b)) (turned from the library's rules for a target of several names) -/
namespace Q
open PySem PySem.Spec PyProof.Rows L2
/-- a list or a tuple under an iterator -/
def ItrOf (t : Bool) (h : Heap) (i l : Addr) (k : Nat) : Prop := match t with | true => h.IsListIter i l k | false => h.IsTupleIter i l k
def SeqA (t : Bool) (h : Heap) (l : Addr) (xs : Array Value) : Prop := match t with | true => h.IsList l xs | false => h.IsTuple l xs
def SqIt (t : Bool) (h : Heap) (i l : Addr) (k : Nat) (xs : Array Value) : Prop := ItrOf t h i l k ∧ SeqA t h l xs
theorem ItrOf.at {t : Bool} {h h' : Heap} {i l : Addr} {k : Nat} (x : ItrOf t h i l k) (e : ∀ o, h.get? i = some o → h'.get? i = some o) : ItrOf t h' i l k := by
  cases t with
  | true => exact Heap.IsListIter.at x e
  | false => exact Heap.IsTupleIter.at x e
theorem SeqA.at {t : Bool} {h h' : Heap} {l : Addr} {xs : Array Value} (x : SeqA t h l xs) (e : ∀ o, h.get? l = some o → h'.get? l = some o) : SeqA t h' l xs := by
  cases t with
  | true => exact Heap.IsList.at x e
  | false => exact Heap.IsTuple.at x e
theorem SqIt.at {t : Bool} {h h' : Heap} {i l : Addr} {k : Nat} {xs : Array Value} (x : SqIt t h i l k xs) (e1 : ∀ o, h.get? i = some o → h'.get? i = some o) (e2 : ∀ o, h.get? l = some o → h'.get? l = some o) : SqIt t h' i l k xs := ⟨x.1.at e1, x.2.at e2⟩
theorem ItrOf.obj {t : Bool} {h : Heap} {i l : Addr} {k : Nat} (x : ItrOf t h i l k) : ∃ o, h.get? i = some o ∧ ∀ v, o.data ≠ .cell v := by
  cases t <;> (obtain ⟨o, e, _, d⟩ := x; exact ⟨o, e, fun v q => by rw [d] at q; cases q⟩)
/-- the zip's own record: what it remembers of a tuple given out -/
abbrev IsZf (h : Heap) (z TI TO : Addr) (v : Value) (f : Bool) : Prop :=
  h.get? z = some { cls := .type "zip", dict := none, data := .fields #[v, .bool f, .bool false, .ref TI, .ref TO], slots := #[] }
def Zok (h : Heap) (z TI TO : Addr) : Prop := ∃ v f, (v = .none ∨ ∃ T : Addr, v = rawInt T) ∧ IsZf h z TI TO v f
section
variable {prog : Program} {w : World} {A : Around} {E : Value → Shared → Prop} {s : Shared}
theorem nextOf_sq_item {t : Bool} {i l : Addr} {k : Nat} {xs : Array Value} {x : Value} {Q : Value → Shared → Prop} (hl : l ≠ i) (h : SqIt t s.heap i l k xs) (hx : xs[k]? = some x)
    (hQ : ∀ h', SqIt t h' i l (k + 1) xs → Heap.SameBut i s.heap h' → Q x { s with heap := h' }) : wpAny (model prog w) A (Builtin.SmallTypes.nextOf (.ref i)) Q E s := by
  cases t with
  | true => exact wpAny_nextOf_list_item h.1 h.2 hx fun h' a' hs => hQ h' ⟨a', Heap.IsList.extBut h.2 hs.extBut hl⟩ hs
  | false => exact RZ.nextOf_tuple_item h.1 h.2 hx fun h' a' hs => hQ h' ⟨a', Heap.IsTuple.extBut h.2 hs.extBut hl⟩ hs
theorem nextOf_sq_end {t : Bool} {i l : Addr} {k : Nat} {xs : Array Value} {Q : Value → Shared → Prop} (hh : A.handled = none) (h : SqIt t s.heap i l k xs) (hx : xs[k]? = none)
    (hE : ∀ h' e, Heap.ExtBut i s.heap h' → (∃ o, h'.get? e = some o ∧ o.cls = .type "StopIteration") → E (.ref e) { s with heap := h' }) : wpAny (model prog w) A (Builtin.SmallTypes.nextOf (.ref i)) Q E s := by
  cases t with
  | true => exact wpAny_nextOf_list_end hh h.1 h.2 hx hE
  | false => exact RZ.nextOf_tuple_end hh h.1 h.2 hx hE
theorem alive_ {a : Addr} {Q : Option Obj → Shared → Prop} (h : Q (s.heap.get? a) s) : wpAny (model prog w) A (loadIfAlive a) Q E s := fun _ _ _ => h
theorem free_zip {z TI TO : Addr} {v : Value} {f : Bool} {Q : Bool → Shared → Prop} (hv : v = .none ∨ ∃ T : Addr, v = rawInt T) (hz : IsZf s.heap z TI TO v f) (h1 : Q true s)
    (h2 : ∀ h', IsZf h' z TI TO v true → Heap.SameBut z s.heap h' → Q false { s with heap := h' }) : wpAny (model prog w) A (Builtin.SmallTypes.ownedTupleIsFree (.ref z)) Q E s := by
  unfold Builtin.SmallTypes.ownedTupleIsFree
  rcases hv with rfl | ⟨T, rfl⟩
  · exact wpAny_bind (wpAny_field hz rfl (x := .none) rfl (wpAny_pure h1))
  · refine wpAny_bind (wpAny_field hz rfl (x := rawInt T) rfl ?_)
    show wpAny _ _ (loadIfAlive ((T : Int).toNat) >>= _) _ _ _
    rw [Int.toNat_natCast]
    refine wpAny_bind (alive_ ?_)
    cases s.heap.get? T with
    | none => exact wpAny_pure h1
    | some oT =>
      simp only [Option.isNone_some, Bool.false_eq_true, if_false]
      refine wpAny_bind (wpAny_field hz rfl (x := .bool f) rfl ?_)
      cases f with
      | true =>
        rw [if_neg (show ¬ ((Value.bool true != Value.bool true) = true) from Bool.false_ne_true)]
        exact wpAny_pure (h2 s.heap hz (Heap.SameBut.refl _ _))
      | false =>
        rw [if_pos (show (Value.bool false != Value.bool true) = true from rfl)]
        exact wpAny_bind (wpAny_setField_rec hz (by simp) fun h₁ hz₁ hs₁ => wpAny_pure (h2 h₁ hz₁ hs₁))
theorem zipN_next_item {t1 t2 : Bool} {z TI TO i1 i2 l1 l2 : Addr} {k1 k2 : Nat} {xs ys : Array Value} {x y : Value} {Q : Value → Shared → Prop} (D : ZipApart z TI TO i1 i2 l1 l2)
    (hz : Zok s.heap z TI TO) (hTI : IsPair s.heap TI (.ref i1) (.ref i2)) (hTO : ∃ a b, IsPair s.heap TO a b)
    (h1 : SqIt t1 s.heap i1 l1 k1 xs) (h2 : SqIt t2 s.heap i2 l2 k2 ys) (hx : xs[k1]? = some x) (hy : ys[k2]? = some y)
    (hQ : ∀ h', Zok h' z TI TO → (∃ a b, IsPair h' TO a b) → SqIt t1 h' i1 l1 (k1 + 1) xs → SqIt t2 h' i2 l2 (k2 + 1) ys → IsPair h' s.heap.objs.size x y → h'.objs.size = s.heap.objs.size + 1 →
      (∀ c o, c ≠ z → c ≠ TO → c ≠ i1 → c ≠ i2 → s.heap.get? c = some o → h'.get? c = some o) → Q (.ref s.heap.objs.size) { s with heap := h' }) :
    wpAny (model prog w) A (Builtin.«zip.__next__» ⟨[.ref z], []⟩) (fun fin s' => ∃ v, fin = .done (.ret v) ∧ Q v s') E s := by
  obtain ⟨v, f, hv, hz⟩ := hz
  obtain ⟨a, b, hTO⟩ := hTO
  show wpAny _ _ (field (.ref z) 2 >>= _) _ _ _
  refine wpAny_bind (wpAny_field hz rfl (x := .bool false) rfl ?_)
  show wpAny _ _ (field (.ref z) 3 >>= _) _ _ _
  refine wpAny_bind (wpAny_field hz rfl (x := .ref TI) rfl ?_)
  refine wpAny_bind (wpAny_seqItems hTI rfl ?_)
  show wpAny _ _ (Builtin.SmallTypes.ownedTupleIsFree (.ref z) >>= _) _ _ _
  refine wpAny_bind (free_zip hv hz ?_ fun h₁ hz₁ hs₁ => ?_)
  · -- the zip's own tuple is free
    simp only [if_true]
    refine wpAny_bind (wpAny_rule ?_)
    refine wpAny_bind (wpAny_field hz rfl (x := .ref TO) rfl ?_)
    refine wpAny_bind (wpAny_setField_rec hz (by simp) fun h₁ hz₁ hs₁ => ?_)
    replace hz₁ : IsZf h₁ z TI TO .ellipsis f := hz₁
    refine wpAny_bind ?_
    simp only [List.zipIdx_cons, List.zipIdx_nil, List.forIn_cons, List.forIn_nil]
    refine wpAny_bind (wpAny_bind (wpAny_onRaise ?_))
    show wpAny _ _ (Builtin.SmallTypes.nextOf (.ref i1) >>= _) _ _ _
    refine wpAny_bind (nextOf_sq_item D.l1i1 (h1.at (fun o e => hs₁.extBut _ _ D.i1z e) (fun o e => hs₁.extBut _ _ D.l1z e)) hx fun h₂ h1₂ hs₂ => wpAny_pure ?_)
    have hTO₂ : IsPair h₂ TO a b := hs₂.extBut _ _ D.TOi1 (hs₁.extBut _ _ D.TOz hTO)
    refine wpAny_bind (wpAny_seqItems hTO₂ rfl ?_)
    refine wpAny_bind (wpAny_updateSeq_pair hTO₂ fun h₃ hTO₃ hs₃ => ?_)
    replace hTO₃ : IsPair h₃ TO x b := hTO₃
    refine wpAny_bind (wpAny_letGo (wpAny_pure ?_))
    refine wpAny_bind (wpAny_bind (wpAny_onRaise ?_))
    show wpAny _ _ (Builtin.SmallTypes.nextOf (.ref i2) >>= _) _ _ _
    refine wpAny_bind (nextOf_sq_item D.l2i2 (h2.at (fun o e => hs₃.extBut _ _ D.TOi2.symm (hs₂.extBut _ _ D.i12.symm (hs₁.extBut _ _ D.i2z e))) (fun o e => hs₃.extBut _ _ D.l2TO (hs₂.extBut _ _ D.l2i1 (hs₁.extBut _ _ D.l2z e)))) hy fun h₄ h2₄ hs₄ => wpAny_pure ?_)
    have hTO₄ : IsPair h₄ TO x b := hs₄.extBut _ _ D.TOi2 hTO₃
    refine wpAny_bind (wpAny_seqItems hTO₄ rfl ?_)
    refine wpAny_bind (wpAny_updateSeq_pair hTO₄ fun h₅ hTO₅ hs₅ => ?_)
    replace hTO₅ : IsPair h₅ TO x y := hTO₅
    refine wpAny_bind (wpAny_letGo (wpAny_pure (wpAny_pure ?_)))
    refine wpAny_bind (wpAny_seqItems hTO₅ rfl ?_)
    refine wpAny_bind (wpAny_newTuple ?_)
    have hsz : h₅.objs.size = s.heap.objs.size := by rw [hs₅.1, hs₄.1, hs₃.1, hs₂.1, hs₁.1]
    have hz₅ : IsZf h₅ z TI TO .ellipsis f := hs₅.extBut _ _ D.TOz.symm (hs₄.extBut _ _ D.i2z.symm (hs₃.extBut _ _ D.TOz.symm (hs₂.extBut _ _ D.i1z.symm hz₁)))
    have hk₅ : ∀ c o, c ≠ z → c ≠ TO → c ≠ i1 → c ≠ i2 → s.heap.get? c = some o → h₅.get? c = some o := fun c o c1 c2 c3 c4 e =>
      hs₅.extBut _ _ c2 (hs₄.extBut _ _ c4 (hs₃.extBut _ _ c2 (hs₂.extBut _ _ c3 (hs₁.extBut _ _ c1 e))))
    have h1₅ : SqIt t1 h₅ i1 l1 (k1 + 1) xs := h1₂.at (fun o e => hs₅.extBut _ _ D.TOi1.symm (hs₄.extBut _ _ D.i12 (hs₃.extBut _ _ D.TOi1.symm e))) (fun o e => hs₅.extBut _ _ D.l1TO (hs₄.extBut _ _ D.l1i2 (hs₃.extBut _ _ D.l1TO e)))
    have h2₅ : SqIt t2 h₅ i2 l2 (k2 + 1) ys := h2₄.at (fun o e => hs₅.extBut _ _ D.TOi2.symm e) (fun o e => hs₅.extBut _ _ D.l2TO e)
    have hzlt : z < h₅.objs.size := Heap.lt_size hz₅
    show wpAny _ _ (Builtin.SmallTypes.ownedTupleHandOut (.ref z) (.ref h₅.objs.size) >>= _) _ _ _
    refine wpAny_bind ?_
    unfold Builtin.SmallTypes.ownedTupleHandOut
    have hz₆ : IsZf (h₅.push { cls := .type "tuple", data := .seq #[x, y] }) z TI TO .ellipsis f := Heap.get?_push_of_some _ hz₅
    refine wpAny_bind (wpAny_setField_rec hz₆ (by simp) fun h₇ hz₇ hs₇ => ?_)
    replace hz₇ : IsZf h₇ z TI TO (rawInt h₅.objs.size) f := hz₇
    refine wpAny_setField_rec hz₇ (by simp) fun h₈ hz₈ hs₈ => ?_
    replace hz₈ : IsZf h₈ z TI TO (rawInt h₅.objs.size) false := hz₈
    have up : ∀ c o, c ≠ z → h₅.get? c = some o → h₈.get? c = some o := fun c o c1 e => hs₈.extBut _ _ c1 (hs₇.extBut _ _ c1 (Heap.get?_push_of_some _ e))
    have hT₈ : IsPair h₈ h₅.objs.size x y := hs₈.extBut _ _ (Nat.ne_of_gt hzlt) (hs₇.extBut _ _ (Nat.ne_of_gt hzlt) (Heap.get?_push_size _ rfl))
    have hz8 : h₈.objs.size = h₅.objs.size + 1 := by rw [hs₈.1, hs₇.1, Heap.size_push]
    rw [hsz] at hz₈ hT₈ hz8
    refine wpAny_pure ⟨_, rfl, ?_⟩
    show Q (.ref h₅.objs.size) _
    rw [hsz]
    exact hQ h₈ ⟨_, _, .inr ⟨_, rfl⟩, hz₈⟩ ⟨_, _, up _ _ D.TOz hTO₅⟩ (h1₅.at (fun o e => up _ o D.i1z e) (fun o e => up _ o D.l1z e)) (h2₅.at (fun o e => up _ o D.i2z e) (fun o e => up _ o D.l2z e)) hT₈ hz8 fun c o c1 c2 c3 c4 e => up c o c1 (hk₅ c o c1 c2 c3 c4 e)
  · -- the tuple given out is still there
    simp only [Bool.false_eq_true, if_false]
    refine wpAny_bind ?_
    rw [← Array.forIn_toList]
    simp only [List.forIn_cons, List.forIn_nil]
    refine wpAny_bind (wpAny_bind (wpAny_holding ?_))
    show wpAny _ _ (Builtin.SmallTypes.nextOf (.ref i1) >>= _) _ _ _
    refine wpAny_bind (nextOf_sq_item (s := { s with heap := h₁ }) D.l1i1 (h1.at (fun o e => hs₁.extBut _ _ D.i1z e) (fun o e => hs₁.extBut _ _ D.l1z e)) hx fun h₂ h1₂ hs₂ => wpAny_pure ?_)
    refine wpAny_pure ?_
    refine wpAny_bind (wpAny_bind (wpAny_holding ?_))
    show wpAny _ _ (Builtin.SmallTypes.nextOf (.ref i2) >>= _) _ _ _
    refine wpAny_bind (nextOf_sq_item (s := { s with heap := h₂ }) D.l2i2 (h2.at (fun o e => hs₂.extBut _ _ D.i12.symm (hs₁.extBut _ _ D.i2z e)) (fun o e => hs₂.extBut _ _ D.l2i1 (hs₁.extBut _ _ D.l2z e))) hy fun h₃ h2₃ hs₃ => wpAny_pure ?_)
    refine wpAny_pure (wpAny_pure ?_)
    show wpAny _ _ (newTuple [x, y] >>= _) _ _ _
    refine wpAny_bind (wpAny_newTuple ?_)
    have hsz : h₃.objs.size = s.heap.objs.size := by rw [hs₃.1, hs₂.1, hs₁.1]
    have hz₃ : IsZf h₃ z TI TO v true := hs₃.extBut _ _ D.i2z.symm (hs₂.extBut _ _ D.i1z.symm hz₁)
    have hTO₃ : IsPair h₃ TO a b := hs₃.extBut _ _ D.TOi2 (hs₂.extBut _ _ D.TOi1 (hs₁.extBut _ _ D.TOz hTO))
    have hk : ∀ c o, c ≠ z → c ≠ i1 → c ≠ i2 → s.heap.get? c = some o → h₃.get? c = some o := fun c o c1 c2 c3 e => hs₃.extBut _ _ c3 (hs₂.extBut _ _ c2 (hs₁.extBut _ _ c1 e))
    have h1₃ : SqIt t1 h₃ i1 l1 (k1 + 1) xs := h1₂.at (fun o e => hs₃.extBut _ _ D.i12 e) (fun o e => hs₃.extBut _ _ D.l1i2 e)
    refine wpAny_pure ⟨_, rfl, ?_⟩
    show Q (.ref h₃.objs.size) _
    have hp : IsPair (h₃.push { cls := .type "tuple", data := .seq #[x, y] }) h₃.objs.size x y := Heap.get?_push_size _ rfl
    have hz4 : (h₃.push { cls := .type "tuple", data := .seq #[x, y] }).objs.size = h₃.objs.size + 1 := Heap.size_push ..
    rw [hsz] at hp hz4 ⊢
    exact hQ _ ⟨_, _, hv, Heap.get?_push_of_some _ hz₃⟩ ⟨_, _, Heap.get?_push_of_some _ hTO₃⟩ (h1₃.at (fun o e => Heap.get?_push_of_some _ e) (fun o e => Heap.get?_push_of_some _ e)) (h2₃.at (fun o e => Heap.get?_push_of_some _ e) (fun o e => Heap.get?_push_of_some _ e)) hp hz4 fun c o c1 _ c2 c3 e => Heap.get?_push_of_some _ (hk c o c1 c2 c3 e)
theorem zipN_next_end {t1 t2 : Bool} {z TI TO i1 i2 l1 l2 : Addr} {k1 k2 : Nat} {xs ys : Array Value} {Q : Fin → Shared → Prop} (hh : A.handled = none) (D : ZipApart z TI TO i1 i2 l1 l2)
    (hz : Zok s.heap z TI TO) (hTI : IsPair s.heap TI (.ref i1) (.ref i2)) (hTO : ∃ a b, IsPair s.heap TO a b)
    (h1 : SqIt t1 s.heap i1 l1 k1 xs) (h2 : SqIt t2 s.heap i2 l2 k2 ys) (hend : xs[k1]? = none ∨ ys[k2]? = none)
    (hE : ∀ h' e, (∀ c o, c ≠ z → c ≠ TO → c ≠ i1 → c ≠ i2 → s.heap.get? c = some o → h'.get? c = some o) → (∃ o, h'.get? e = some o ∧ o.cls = .type "StopIteration") → E (.ref e) { s with heap := h' }) :
    wpAny (model prog w) A (Builtin.«zip.__next__» ⟨[.ref z], []⟩) Q E s := by
  obtain ⟨v, f, hv, hz⟩ := hz
  obtain ⟨a, b, hTO⟩ := hTO
  show wpAny _ _ (field (.ref z) 2 >>= _) _ _ _
  refine wpAny_bind (wpAny_field hz rfl (x := .bool false) rfl ?_)
  show wpAny _ _ (field (.ref z) 3 >>= _) _ _ _
  refine wpAny_bind (wpAny_field hz rfl (x := .ref TI) rfl ?_)
  refine wpAny_bind (wpAny_seqItems hTI rfl ?_)
  show wpAny _ _ (Builtin.SmallTypes.ownedTupleIsFree (.ref z) >>= _) _ _ _
  refine wpAny_bind (free_zip hv hz ?_ fun h₁ hz₁ hs₁ => ?_)
  · simp only [if_true]
    refine wpAny_bind (wpAny_rule ?_)
    refine wpAny_bind (wpAny_field hz rfl (x := .ref TO) rfl ?_)
    refine wpAny_bind (wpAny_setField_rec hz (by simp) fun h₁ hz₁ hs₁ => ?_)
    replace hz₁ : IsZf h₁ z TI TO .ellipsis f := hz₁
    refine wpAny_bind ?_
    simp only [List.zipIdx_cons, List.zipIdx_nil, List.forIn_cons, List.forIn_nil]
    refine wpAny_bind (wpAny_bind (wpAny_onRaise ?_))
    show wpAny _ _ (Builtin.SmallTypes.nextOf (.ref i1) >>= _) _ _ _
    have h1₁ : SqIt t1 h₁ i1 l1 k1 xs := h1.at (fun o e => hs₁.extBut _ _ D.i1z e) (fun o e => hs₁.extBut _ _ D.l1z e)
    cases hx : xs[k1]? with
    | none =>
      refine wpAny_bind (nextOf_sq_end hh h1₁ hx fun h₂ e hs₂ he => ?_)
      obtain ⟨oe, hoe, hce⟩ := he
      have hz₂ : IsZf h₂ z TI TO .ellipsis f := hs₂ _ _ D.i1z.symm hz₁
      have hez : e ≠ z := fun x => by subst x; rw [hz₂] at hoe; cases hoe; simp at hce
      refine wpAny_setField_rec hz₂ (by simp) fun h₃ _ hs₃ => hE h₃ e (fun c o c1 _ c3 _ x => hs₃.extBut _ _ c1 (hs₂ _ _ c3 (hs₁.extBut _ _ c1 x))) ⟨oe, hs₃.extBut _ _ hez hoe, hce⟩
    | some x =>
      have hy : ys[k2]? = none := by rcases hend with h | h; rw [hx] at h; cases h; exact h
      refine wpAny_bind (nextOf_sq_item D.l1i1 h1₁ hx fun h₂ h1₂ hs₂ => wpAny_pure ?_)
      have hTO₂ : IsPair h₂ TO a b := hs₂.extBut _ _ D.TOi1 (hs₁.extBut _ _ D.TOz hTO)
      refine wpAny_bind (wpAny_seqItems hTO₂ rfl ?_)
      refine wpAny_bind (wpAny_updateSeq_pair hTO₂ fun h₃ hTO₃ hs₃ => ?_)
      refine wpAny_bind (wpAny_letGo (wpAny_pure ?_))
      refine wpAny_bind (wpAny_bind (wpAny_onRaise ?_))
      show wpAny _ _ (Builtin.SmallTypes.nextOf (.ref i2) >>= _) _ _ _
      refine wpAny_bind (nextOf_sq_end hh (h2.at (fun o e => hs₃.extBut _ _ D.TOi2.symm (hs₂.extBut _ _ D.i12.symm (hs₁.extBut _ _ D.i2z e))) (fun o e => hs₃.extBut _ _ D.l2TO (hs₂.extBut _ _ D.l2i1 (hs₁.extBut _ _ D.l2z e)))) hy fun h₄ e hs₄ he => ?_)
      obtain ⟨oe, hoe, hce⟩ := he
      have hz₄ : IsZf h₄ z TI TO .ellipsis f := hs₄ _ _ D.i2z.symm (hs₃.extBut _ _ D.TOz.symm (hs₂.extBut _ _ D.i1z.symm hz₁))
      have hez : e ≠ z := fun x => by subst x; rw [hz₄] at hoe; cases hoe; simp at hce
      refine wpAny_setField_rec hz₄ (by simp) fun h₅ _ hs₅ => hE h₅ e (fun c o c1 c2 c3 c4 x => hs₅.extBut _ _ c1 (hs₄ _ _ c4 (hs₃.extBut _ _ c2 (hs₂.extBut _ _ c3 (hs₁.extBut _ _ c1 x))))) ⟨oe, hs₅.extBut _ _ hez hoe, hce⟩
  · simp only [Bool.false_eq_true, if_false]
    refine wpAny_bind ?_
    rw [← Array.forIn_toList]
    simp only [List.forIn_cons, List.forIn_nil]
    refine wpAny_bind (wpAny_bind (wpAny_holding ?_))
    show wpAny _ _ (Builtin.SmallTypes.nextOf (.ref i1) >>= _) _ _ _
    have h1₁ : SqIt t1 h₁ i1 l1 k1 xs := h1.at (fun o e => hs₁.extBut _ _ D.i1z e) (fun o e => hs₁.extBut _ _ D.l1z e)
    cases hx : xs[k1]? with
    | none =>
      refine wpAny_bind (nextOf_sq_end (s := { s with heap := h₁ }) hh h1₁ hx fun h₂ e hs₂ he => ?_)
      exact hE h₂ e (fun c o c1 _ c3 _ x => hs₂ _ _ c3 (hs₁.extBut _ _ c1 x)) he
    | some x =>
      have hy : ys[k2]? = none := by rcases hend with h | h; rw [hx] at h; cases h; exact h
      refine wpAny_bind (nextOf_sq_item (s := { s with heap := h₁ }) D.l1i1 h1₁ hx fun h₂ h1₂ hs₂ => wpAny_pure ?_)
      refine wpAny_pure ?_
      refine wpAny_bind (wpAny_bind (wpAny_holding ?_))
      show wpAny _ _ (Builtin.SmallTypes.nextOf (.ref i2) >>= _) _ _ _
      refine wpAny_bind (nextOf_sq_end (s := { s with heap := h₂ }) hh (h2.at (fun o e => hs₂.extBut _ _ D.i12.symm (hs₁.extBut _ _ D.i2z e)) (fun o e => hs₂.extBut _ _ D.l2i1 (hs₁.extBut _ _ D.l2z e))) hy fun h₃ e hs₃ he => ?_)
      exact hE h₃ e (fun c o c1 _ c3 c4 x => hs₃ _ _ c4 (hs₂.extBut _ _ c3 (hs₁.extBut _ _ c1 x))) he
theorem Zok.typeIs {z TI TO : Addr} (h : Zok s.heap z TI TO) : s.TypeIs (.ref z) "zip" := let ⟨_, _, _, e⟩ := h; ⟨_, e, rfl⟩
theorem pyNext_zipN_item {t1 t2 : Bool} {z TI TO i1 i2 l1 l2 : Addr} {k1 k2 : Nat} {xs ys : Array Value} {x y : Value} {Q : Option Value → Shared → Prop} (D : ZipApart z TI TO i1 i2 l1 l2)
    (hz : Zok s.heap z TI TO) (hTI : IsPair s.heap TI (.ref i1) (.ref i2)) (hTO : ∃ a b, IsPair s.heap TO a b)
    (h1 : SqIt t1 s.heap i1 l1 k1 xs) (h2 : SqIt t2 s.heap i2 l2 k2 ys) (hx : xs[k1]? = some x) (hy : ys[k2]? = some y)
    (hQ : ∀ h', Zok h' z TI TO → (∃ a b, IsPair h' TO a b) → SqIt t1 h' i1 l1 (k1 + 1) xs → SqIt t2 h' i2 l2 (k2 + 1) ys → IsPair h' s.heap.objs.size x y → h'.objs.size = s.heap.objs.size + 1 →
      (∀ c o, c ≠ z → c ≠ TO → c ≠ i1 → c ≠ i2 → s.heap.get? c = some o → h'.get? c = some o) → Q (some (.ref s.heap.objs.size)) { s with heap := h' }) :
    wpAny (model prog w) A (pyNext (.ref z)) Q E s := by
  have hT := hz.typeIs
  unfold pyNext
  exact wpAny_bind (wpAny_attempt (wpAny_callSpecial?_slot (name := Str.ofString "__next__") hT F.slot_zip_next
    (wpAny_call_entry F.slot_zip_next hT F.entry_zip_next
      (zipN_next_item D hz hTI hTO h1 h2 hx hy fun h' a1 a2 a3 a4 a5 a6 a7 => wpAny_pure (hQ h' a1 a2 a3 a4 a5 a6 a7)) (F.args_zip_next_1 _))))
theorem pyNext_zipN_end {t1 t2 : Bool} {z TI TO i1 i2 l1 l2 : Addr} {k1 k2 : Nat} {xs ys : Array Value} {Q : Option Value → Shared → Prop} (hh : A.handled = none) (D : ZipApart z TI TO i1 i2 l1 l2)
    (hz : Zok s.heap z TI TO) (hTI : IsPair s.heap TI (.ref i1) (.ref i2)) (hTO : ∃ a b, IsPair s.heap TO a b)
    (h1 : SqIt t1 s.heap i1 l1 k1 xs) (h2 : SqIt t2 s.heap i2 l2 k2 ys) (hend : xs[k1]? = none ∨ ys[k2]? = none)
    (hQ : ∀ h', (∀ c o, c ≠ z → c ≠ TO → c ≠ i1 → c ≠ i2 → s.heap.get? c = some o → h'.get? c = some o) → Q none { s with heap := h' }) : wpAny (model prog w) A (pyNext (.ref z)) Q E s := by
  have hT := hz.typeIs
  unfold pyNext
  refine wpAny_bind (wpAny_attempt (wpAny_callSpecial?_slot (name := Str.ofString "__next__") hT F.slot_zip_next
    (wpAny_call_entry F.slot_zip_next hT F.entry_zip_next (zipN_next_end hh D hz hTI hTO h1 h2 hend fun h' e hk he => ?_) (F.args_zip_next_1 _))))
  obtain ⟨o, ho, hc⟩ := he
  refine wpAny_bind (wpAny_isInstance (T := "StopIteration") (b := true) ⟨o, ho, hc⟩ isSubtype_stop ?_)
  exact wpAny_pure (hQ _ hk)
theorem pyIter_zok {z TI TO : Addr} {Q : Value → Shared → Prop} (hz : Zok s.heap z TI TO) (h : Q (.ref z) s) : wpAny (model prog w) A (pyIter (.ref z)) Q E s := by
  have hT := hz.typeIs
  refine wpAny_pyIter_slot hT F.slot_zip_iter (wpAny_call_entry F.slot_zip_iter hT F.entry_zip_iter ?_ (F.args_zip_iter_1 _))
  show wpAny _ _ (ret (.ref z)) _ _ s
  exact wpAny_pure ⟨_, rfl, "zip", _, hT, F.slot_zip_next.lookup, h⟩
end
/-! ### the walk to one name -/
def SqOf (K : PySem.W.Frag) (t : Bool) (H : Hp) (a : Addr) (xs : List V) : Prop := match t with | true => SqL K H a xs | false => SqT K H a xs
section
variable {X : Cx} {pins : List (Addr × Obj)} {σ : L2.St} {H : Hp} {s : Shared}
theorem sq_inv {t : Bool} {a : Addr} {xs : List V} (I : Inv X pins σ H s) (h : SqOf X.K t H a xs) : ∃ its : List Value, Vals xs its ∧ SeqA t s.heap a its.toArray ∧ xs.length ≤ sizeLine ∧ a < s.heap.objs.size := by
  cases t with
  | true =>
    obtain ⟨its, rv, p, z⟩ := I.list h
    exact ⟨its, rv, p.isList, z, p.lt⟩
  | false =>
    obtain ⟨its, rv, p, z⟩ := I.tuple h
    obtain ⟨o, ho, _⟩ := id p
    exact ⟨its, rv, (show s.heap.IsTuple a its.toArray from p), z, Heap.lt_size ho⟩
theorem sq_inj {t : Bool} {a : Addr} {xs ys : List V} (I : Inv X pins σ H s) (h : SqOf X.K t H a xs) (k : SqOf X.K t H a ys) : xs = ys := by
  cases t with
  | true => exact I.list_inj h k
  | false => exact I.tuple_inj h k
end
def ItzK (K : PySem.W.Frag) (t : Bool) (a b : Addr) : It :=
  ⟨fun i H => ∃ (xs ys : List V) (x y : V), SqOf K t H a xs ∧ SqOf K t H b ys ∧ xs[i]? = some x ∧ ys[i]? = some y,
    fun i H v H' => ∃ T o x y, v = .ref T ∧ H T = none ∧ o.dict = none ∧ H' = upd H T (.frz o (.tup [x, y])) ∧ (∀ xs, SqOf K t H a xs → xs[i]? = some x) ∧ ∀ ys, SqOf K t H b ys → ys[i]? = some y,
    fun i H => ∃ xs ys : List V, SqOf K t H a xs ∧ SqOf K t H b ys ∧ (xs.length ≤ i ∨ ys.length ≤ i)⟩
/-- the state of such a zip -/
def Ztn (t : Bool) (z TI TO i1 i2 a b : Addr) (i : Nat) (h : Heap) : Prop := Zok h z TI TO ∧ IsPair h TI (.ref i1) (.ref i2) ∧ (∃ x y, IsPair h TO x y) ∧ ItrOf t h i1 a i ∧ ItrOf t h i2 b i
theorem Ztn.obj {t : Bool} {z TI TO i1 i2 a b : Addr} {i : Nat} {h : Heap} (st : Ztn t z TI TO i1 i2 a b i h) : ∀ c ∈ [z, TI, TO, i1, i2], ∃ o, h.get? c = some o ∧ ∀ v, o.data ≠ .cell v := fun c hc => by
  obtain ⟨⟨v, f, _, hz⟩, hTI, ⟨x, y, hTO⟩, h1, h2⟩ := st
  have e' : c = z ∨ c = TI ∨ c = TO ∨ c = i1 ∨ c = i2 := by simpa using hc
  rcases e' with q | q | q | q | q
  · rw [q]; exact ⟨_, hz, fun v q => nomatch q⟩
  · rw [q]; exact ⟨_, hTI, fun v q => nomatch q⟩
  · rw [q]; exact ⟨_, hTO, fun v q => nomatch q⟩
  · rw [q]; exact h1.obj
  · rw [q]; exact h2.obj
theorem Ztn.keep {t : Bool} {z TI TO i1 i2 a b : Addr} {i : Nat} {h h' : Heap} (st : Ztn t z TI TO i1 i2 a b i h) (k : ∀ c ∈ [z, TI, TO, i1, i2], ∀ o, h.get? c = some o → h'.get? c = some o) : Ztn t z TI TO i1 i2 a b i h' := by
  obtain ⟨⟨v, f, hv, hz⟩, hTI, ⟨x, y, hTO⟩, h1, h2⟩ := st
  exact ⟨⟨v, f, hv, k z (by simp) _ hz⟩, k TI (by simp) _ hTI, ⟨x, y, k TO (by simp) _ hTO⟩, h1.at fun o q => k i1 (by simp) o q, h2.at fun o q => k i2 (by simp) o q⟩
/-- a turn of such a zip: a new tuple is known -/
theorem zipK_item {X : Cx} {t : Bool} {z TI TO i1 i2 a b : Addr} (D : ZipApart z TI TO i1 i2 a b) {A : Around} {E : Value → Shared → Prop} {pins : List (Addr × Obj)} {s : Shared} {σ : L2.St} {H : Hp} {i : Nat} {Q : Option Value → Shared → Prop}
    (I : Inv X pins σ H s) (hf : ∀ c ∈ [z, TI, TO, i1, i2], FpOk X pins H c) (st : Ztn t z TI TO i1 i2 a b i s.heap) {xs ys : List V} {x y : V} (hqx : SqOf X.K t H a xs) (hqy : SqOf X.K t H b ys) (hx : xs[i]? = some x) (hy : ys[i]? = some y)
    (k : ∀ (h' : Heap) (o : Obj), o.dict = none → Inv X pins σ (upd H s.heap.objs.size (.frz o (.tup [x, y]))) { s with heap := h' } → Ztn t z TI TO i1 i2 a b (i + 1) h' → h'.objs.size = s.heap.objs.size + 1 → (∀ c o, c ∉ [z, TI, TO, i1, i2] → s.heap.get? c = some o → h'.get? c = some o) → Q (some (.ref s.heap.objs.size)) { s with heap := h' }) :
    wpAny (model X.prog X.w) A (pyNext (.ref z)) Q E s := by
  obtain ⟨hz, hTI, hTO, h1, h2⟩ := st
  obtain ⟨its, rv, p, _⟩ := sq_inv I hqx
  obtain ⟨its2, rv2, p2, _⟩ := sq_inv I hqy
  obtain ⟨u, hu, ru⟩ := rv.get hx
  obtain ⟨u2, hu2, ru2⟩ := rv2.get hy
  refine pyNext_zipN_item D hz hTI hTO ⟨h1, p⟩ ⟨h2, p2⟩ (x := u) (y := u2) (by simpa using hu) (by simpa using hu2) fun h' z' TO' h1' h2' hT hsz hk => ?_
  have kk : ∀ c o, c ∉ [z, TI, TO, i1, i2] → s.heap.get? c = some o → h'.get? c = some o := fun c o hb q => hk c o (fun q' => hb (by simp [q'])) (fun q' => hb (by simp [q'])) (fun q' => hb (by simp [q'])) (fun q' => hb (by simp [q'])) q
  have new : ObjOk X.prog X.w (upd H s.heap.objs.size (.frz { cls := .type "tuple", data := .seq #[u, u2] } (.tup [x, y]))) h' s.heap.objs.size (.frz { cls := .type "tuple", data := .seq #[u, u2] } (.tup [x, y])) :=
    tup_ok (by show 2 ≤ sizeLine; decide) (.cons ru (.cons ru2 .nil)) rfl hT
  exact k h' _ rfl (I.turnedNew (t' := s.toks) (ch := [z, TI, TO, i1, i2]) kk hf (Nat.le_refl _) new) ⟨z', hk _ _ D.TIz D.TITO D.TIi1 D.TIi2 hTI, TO', h1'.1, h2'.1⟩ hsz kk
theorem zipK_end {X : Cx} {t : Bool} {z TI TO i1 i2 a b : Addr} (D : ZipApart z TI TO i1 i2 a b) {A : Around} (hh : A.handled = none) {E : Value → Shared → Prop} {pins : List (Addr × Obj)} {s : Shared} {σ : L2.St} {H : Hp} {i : Nat} {Q : Option Value → Shared → Prop}
    (I : Inv X pins σ H s) (hf : ∀ c ∈ [z, TI, TO, i1, i2], FpOk X pins H c) (st : Ztn t z TI TO i1 i2 a b i s.heap) {xs ys : List V} (hqx : SqOf X.K t H a xs) (hqy : SqOf X.K t H b ys) (hend : xs.length ≤ i ∨ ys.length ≤ i)
    (k : ∀ h' : Heap, Inv X pins σ H { s with heap := h' } → (∀ c o, c ∉ [z, TI, TO, i1, i2] → s.heap.get? c = some o → h'.get? c = some o) → Q none { s with heap := h' }) : wpAny (model X.prog X.w) A (pyNext (.ref z)) Q E s := by
  obtain ⟨hz, hTI, hTO, h1, h2⟩ := st
  obtain ⟨its, rv, p, _⟩ := sq_inv I hqx
  obtain ⟨its2, rv2, p2, _⟩ := sq_inv I hqy
  have l1 := rv.length
  have l2 := rv2.length
  have he : its.toArray[i]? = none ∨ its2.toArray[i]? = none := by
    rcases hend with q | q
    · exact .inl (by simp; omega)
    · exact .inr (by simp; omega)
  refine pyNext_zipN_end hh D hz hTI hTO ⟨h1, p⟩ ⟨h2, p2⟩ he fun h' hk => ?_
  have kk : ∀ c o, c ∉ [z, TI, TO, i1, i2] → s.heap.get? c = some o → h'.get? c = some o := fun c o hb q => hk c o (fun q' => hb (by simp [q'])) (fun q' => hb (by simp [q'])) (fun q' => hb (by simp [q'])) (fun q' => hb (by simp [q'])) q
  exact k h' (I.turnedL (t' := s.toks) (ch := [z, TI, TO, i1, i2]) kk hf) kk
theorem turn_zipK {P : Program} {w : World} {K : PySem.W.Frag} {nm : Str} {tpos : Pos} {t : Bool} {a b z TI TO i1 i2 : Addr} (D : ZipApart z TI TO i1 i2 a b) :
    Turn P w K (.Name nm tpos) (ItzK K t a b) [z, TI, TO, i1, i2] z (Ztn t z TI TO i1 i2 a b) where
  mem := by simp
  obj := fun i h st c hc => st.obj c hc
  keep := fun i h h' st k => st.keep k
  item := by
    intro X hP hw hK hc i pins s σ H E I hf st hg
    subst hP hw hK
    obtain ⟨xs, ys, x, y, hqx, hqy, hx, hy⟩ := hg
    refine zipK_item D I hf st hqx hqy hx hy fun h' o ho I' st' hsz kk => ⟨_, rfl, ?_⟩
    show wpAny _ _ (pure ()) _ _ _
    refine wpAny_pure ⟨.ref s.heap.objs.size, _, I', rfl, ⟨_, o, x, y, rfl, I.hok.fresh (Nat.le_refl _), ho, rfl, fun l hl => by rw [sq_inj I hl hqx]; exact hx, fun l hl => by rw [sq_inj I hl hqy]; exact hy⟩, st', fun c hcm => ?_⟩
    have hlt : c < s.heap.objs.size := by obtain ⟨o, e, _⟩ := st.obj c hcm; exact Heap.lt_size e
    rw [upd_ne (Nat.ne_of_lt hlt)]
    exact (hf c hcm).1
  done := by
    intro X hP hw hK hc i pins s σ H E I hf st hg
    subst hP hw hK
    obtain ⟨xs, ys, hqx, hqy, hend⟩ := hg
    exact zipK_end D (I.ok.hd hc) I hf st hqx hqy hend fun h' I' _ => ⟨rfl, I'⟩
  self := fun A i s Q E st h => pyIter_zok st.1 h
theorem call_zipK {X : Cx} {t : Bool} {pins : List (Addr × Obj)} {s : Shared} {σ : L2.St} {H : Hp} {A : Around} {E : Value → Shared → Prop} {a b : Addr} {xs ys : List V} {Q : Value → Shared → Prop} (I : Inv X pins σ H s) (hqx : SqOf X.K t H a xs) (hqy : SqOf X.K t H b ys)
    (k : ∀ (h' : Heap) (z TI TO i1 i2 : Addr), ZipApart z TI TO i1 i2 a b → Inv X pins σ H { s with heap := h' } → Ztn t z TI TO i1 i2 a b 0 h' → (∀ c ∈ [z, TI, TO, i1, i2], FpOk X pins H c) → Q (.ref z) { s with heap := h' }) :
    wpAny (model X.prog X.w) A (call (.type "zip") [.ref a, .ref b]) Q E s := by
  have fresh5 : ∀ c, c ∈ [s.heap.objs.size + 4, s.heap.objs.size + 2, s.heap.objs.size + 3, s.heap.objs.size, s.heap.objs.size + 1] → FpOk X pins H c := fun c hcm => by
    have hle : s.heap.objs.size ≤ c := by
      simp at hcm
      omega
    exact I.fpOk hle (I.hok.fresh hle)
  obtain ⟨its, rv, p, _, la⟩ := sq_inv I hqx
  obtain ⟨its2, rv2, p2, _, lb⟩ := sq_inv I hqy
  cases t with
  | true =>
    refine call_zip_2 p p2 fun h' hz hTI hTO h1 h2 hsz hk => ?_
    exact k h' _ _ _ _ _ (PySem.W.ktu_apart s.heap.objs.size a b la lb) (I.kept (t' := s.toks) hk) ⟨⟨_, _, .inl rfl, hz⟩, hTI, ⟨_, _, hTO⟩, h1, h2⟩ fresh5
  | false =>
    refine RZ.call_zipT p p2 fun h' hz hTI hTO h1 h2 hsz hk => ?_
    exact k h' _ _ _ _ _ (PySem.W.ktu_apart s.heap.objs.size a b la lb) (I.kept (t' := s.toks) hk) ⟨⟨_, _, .inl rfl, hz⟩, hTI, ⟨_, _, hTO⟩, h1, h2⟩ fresh5
def iZipK (K : PySem.W.Frag) (ta : TA) : TI := fun σ H R => ta σ H fun vs H1 => ∃ t a b xs ys, vs = [.ref a, .ref b] ∧ SqOf K t H1 a xs ∧ SqOf K t H1 b ys ∧ R (ItzK K t a b) H1
theorem pi_zipK {X : Cx} {e e2 : Expr} {ta : TA} {p pos tpos : Pos} {nm : Str} (hg : Gl X "zip") (hm : X.mg "zip" = none) (ha : PA X [e, e2] ta)
    (hs : starEach [e, e2] X.env = (false, eval e X.env) :: starEach [e2] X.env := by rfl) (hpl : (backTo pos (starEach [e2] X.env)).any (·.1) = false := by rfl) :
    PI X (.Name nm tpos) (.Call (.Name "zip" p) [e, e2] [] pos) (iZipK X.K ta) := by
  refine ⟨fun pins s σ H R I h => ?_⟩
  refine Call_ (ld_blt I hg hm PyProof.Rows.boot_zip (PyProof.Rows.callWith_type1 (thn (ha.run pos pins s σ H _ I h) fun us s1 ⟨vs, H1, I1, r1, q1⟩ => ?_) hs hpl))
  obtain ⟨t, a, b, xs, ys, ex, hqx, hqy, q⟩ := q1
  subst ex
  cases r1 with
  | cons r rr =>
    cases rr with
    | cons r' rr =>
      cases rr
      cases r
      cases r'
      refine call_zipK I1 hqx hqy fun h' z TI TO i1 i2 D I2 st hf => pyIter_zok st.1 ?_
      exact ⟨z, [z, TI, TO, i1, i2], _, _, H1, rfl, I2, turn_zipK D, st, hf, q⟩
/-! ### for plain functions -/
def zipT : List D → List D → List D
  | x :: xs, y :: ys => .tup [x, y] :: zipT xs ys
  | _, _ => []
theorem zipT_len : ∀ (xs ys : List D), (zipT xs ys).length = min xs.length ys.length
  | [], _ => by simp [zipT]
  | _ :: _, [] => by simp [zipT]
  | x :: xs, y :: ys => by simp [zipT, zipT_len xs ys]
theorem zipT_get : ∀ {xs ys : List D} {i : Nat} {d : D}, (zipT xs ys)[i]? = some d → ∃ x y, xs[i]? = some x ∧ ys[i]? = some y ∧ d = .tup [x, y]
  | [], _, _, _, h => by simp [zipT] at h
  | _ :: _, [], _, _, h => by simp [zipT] at h
  | x :: xs, y :: ys, 0, d, h => by simp [zipT] at h; exact ⟨x, y, rfl, rfl, h.symm⟩
  | x :: xs, y :: ys, i + 1, d, h => by
    obtain ⟨a, b, e1, e2, e3⟩ := zipT_get (xs := xs) (ys := ys) (i := i) (d := d) (by simpa [zipT] using h)
    exact ⟨a, b, by simpa using e1, by simpa using e2, e3⟩
def zpkOf (x y : Out) : Option Src := match x, y with
  | .v (.tup a), .v (.tup b) => some ⟨zipT a b, []⟩
  | _, _ => none
@[simp] def iZpk (a b : E) (ρ : Env) (m : Mem) : Option (Src × Mem) := (a ρ m).bind fun x => (b ρ x.2).bind fun y => (zpkOf x.1 y.1).bind fun s => some (s, y.2)
theorem si_zpk {X : Cx} {tg e : Expr} {fa fb : E} (h : PI X tg e (iZipK X.K (tCons (tE X.K fa) (tCons (tE X.K fb) tNil)))) : SI X tg e (iZpk fa fb) := pi_imp h fun σ H R ⟨ι, ρ, m, s, m', rs, rm, hf, k⟩ => by
  obtain ⟨x, h1, hf⟩ := bind_some hf
  obtain ⟨y, h2, hf⟩ := bind_some hf
  obtain ⟨s', h3, hf⟩ := bind_some hf
  cases hf
  refine ⟨ι, ρ, m, x.1, x.2, rs, rm, h1, fun v ι1 H1 l1 rm1 ro1 bd1 => ?_⟩
  refine ⟨ι1, ρ, x.2, y.1, y.2, rs.mono l1, rm1, h2, fun u ι2 H2 l2 rm2 ro2 bd2 => ?_⟩
  have ro1 := ro1.mono l2
  unfold zpkOf at h3
  split at h3
  · rename_i a b e1 e2; cases h3
    rw [e1] at ro1
    rw [e2] at ro2
    cases ro1 with
    | tup hs r =>
      cases ro2 with
      | tup hs2 r2 =>
        refine ⟨false, _, _, _, _, rfl, hs.sq, hs2.sq, fun bd => k _ ι2 H2 (l1.tr rm1 l2) rm2 ?_ bd ?_⟩
        · intro ι3 H3 m3 i l3 rm3 _
          have hs' : SqOf X.K false H3 _ _ := (l3.k.rdT hs).sq
          have hs2' : SqOf X.K false H3 _ _ := (l3.k.rdT hs2).sq
          have r' := r.mono l3
          have r2' := r2.mono l3
          refine ⟨fun hl => ⟨_, _, hs', hs2', ?_⟩, fun d hd => ?_⟩
          · rw [show (⟨zipT a b, []⟩ : Src).items = zipT a b from rfl, zipT_len] at hl
            rw [← r.length, ← r2.length]; omega
          · obtain ⟨d1, d2, g1, g2, rfl⟩ := zipT_get hd
            obtain ⟨v1, w1, q1⟩ := r'.get g1
            obtain ⟨v2, w2, q2⟩ := r2'.get g2
            refine ⟨⟨_, _, v1, v2, hs', hs2', w1, w2⟩, fun z H4 hy => ?_⟩
            obtain ⟨T, o, z1, z2, rfl, hT, ho, rfl, y1, y2⟩ := hy
            have y1 := y1 _ hs'
            have y2 := y2 _ hs2'
            rw [w1] at y1; cases y1
            rw [w2] at y2; cases y2
            exact ⟨Le.newAt hT, rm3.newAt hT, new_tup hT ho (.cons q1 (.cons q2 .nil))⟩
        · show (zipT a b).length ≤ _
          rw [zipT_len]
          have := bd2 _ _ (.inr hs.sq)
          rw [← r.length] at this
          omega
  · cases h3
section
variable {X : Cx} {e a b c : Expr} {pos p tpos : Pos} {fa fb fc : E} {nm : Str}
theorem zpk_ (hm : X.mg "zip" = none) (ha : SE X a fa) (hb : SE X b fb) (hg : Gl X "zip" := by rfl) (hs : starEach [a, b] X.env = (false, eval a X.env) :: starEach [b] X.env := by rfl) (hs2 : starEach [b] X.env = (false, eval b X.env) :: starEach [] X.env := by rfl)
    (hpl : (backTo pos (starEach [b] X.env)).any (·.1) = false := by rfl) : SI X (.Name nm tpos) (.Call (.Name "zip" p) [a, b] [] pos) (iZpk fa fb) := si_zpk (pi_zipK hg hm (pa2 ha hb hs hs2) hs hpl)
end
/-! ### list(zip(a, b)) of two lists -/
theorem zip_no_len : typeLookup (.type "zip") "__len__" = pure none := by rw [typeLookup_type, builtinLookup_eq_fast]; kernel_rfl
theorem zip_no_hint : typeLookup (.type "zip") "__length_hint__" = pure none := by rw [typeLookup_type, builtinLookup_eq_fast]; kernel_rfl
/-- what stands in the new list so far -/
def Zvs (H : Hp) (xs ys : List V) (i : Nat) (vs : List V) : Prop := vs.length = i ∧ ∀ (j : Nat) (v : V), vs[j]? = some v → ∃ (T : Addr) (o : Obj) (x y : V), v = V.ref T ∧ xs[j]? = some x ∧ ys[j]? = some y ∧ H T = some (.frz o (.tup [x, y])) ∧ o.dict = none
def Kp0 (H1 H : Hp) : Prop := ∀ c o, H1 c = some o → H c = some o
theorem sq_kp0 {K : PySem.W.Frag} {H1 H : Hp} {a : Addr} {xs : List V} (k : Kp0 H1 H) (h : SqL K H1 a xs) : SqL K H a xs := by
  rcases h with (h | ⟨o, h⟩) | h
  · exact .inl (.inl (k _ _ h))
  · exact .inl (.inr ⟨o, k _ _ h⟩)
  · exact .inr h
theorem loop_lzi {X : Cx} {A : Around} (hh : A.in1.handled = none) {pins : List (Addr × Obj)} {σ : L2.St} {H1 : Hp} {a b S : Addr} {xs ys : List V} (hqx : SqL X.K H1 a xs) (hqy : SqL X.K H1 b ys) {z TI TO i1 i2 : Addr} (D : ZipApart z TI TO i1 i2 a b) (hS5 : S ∉ [z, TI, TO, i1, i2]) {R : Result → Shared → Prop} {res : Value} (hn : min xs.length ys.length ≤ sizeLine) :
    ∀ (k i : Nat) (s : Shared) (H : Hp) (acc : Array Value) (c : Nat) (vs : List V), min xs.length ys.length - i = k → i ≤ min xs.length ys.length → Inv X pins σ H s → Kp0 H1 H → Zvs H xs ys i vs → Vals vs acc.toList → (∀ b ∈ [z, TI, TO, i1, i2], FpOk X pins H b) → FpOk X pins H S → Ztn true z TI TO i1 i2 a b i s.heap →
    s.heap.get? S = some { cls := .type "list", dict := none, data := .seq acc c, slots := #[] } →
    (∀ (h' : Heap) (H' : Hp) (acc' : Array Value) (c' : Nat) (vs' : List V), Inv X pins σ H' { s with heap := h' } → Kp0 H1 H' → Zvs H' xs ys (min xs.length ys.length) vs' → Vals vs' acc'.toList → FpOk X pins H' S → h'.get? S = some { cls := .type "list", dict := none, data := .seq acc' c', slots := #[] } → R (.ok (.ret res)) { s with heap := h' }) →
    codeAny (model X.prog X.w) A (.builtin "list.extend.loop" ⟨[.ref S, .ref z, res], []⟩) R s := by
  intro k
  induction k with
  | zero =>
    intro i s H acc c vs hk hi I kp zv hv hf fS st hS hR
    have hin : i = min xs.length ys.length := by omega
    refine codeAny_builtin F.entry_extend_loop ?_
    rw [Around.under_plainId F.plain_extend_loop _]
    show wpAny _ A.in1 (pyNext (.ref z) >>= _) _ _ s
    refine wpAny_bind (zipK_end D hh I hf st (sq_kp0 kp hqx) (sq_kp0 kp hqy) (by omega) fun h' I' kk => ?_)
    exact wpAny_pure (hR h' H acc c vs I' kp (hin ▸ zv) hv fS (kk S _ hS5 hS))
  | succ k ih =>
    intro i s H acc c vs hk hi I kp zv hv hf fS st hS hR
    have hlt : i < min xs.length ys.length := by omega
    have hx : xs[i]? = some xs[i] := List.getElem?_eq_getElem (by omega)
    have hy : ys[i]? = some ys[i] := List.getElem?_eq_getElem (by omega)
    have hacc : acc.size = i := by
      have := hv.length
      rw [zv.1, Array.length_toList] at this
      omega
    refine codeAny_builtin F.entry_extend_loop ?_
    rw [Around.under_plainId F.plain_extend_loop _]
    show wpAny _ A.in1 (pyNext (.ref z) >>= _) _ _ s
    refine wpAny_bind (zipK_item D I hf st (sq_kp0 kp hqx) (sq_kp0 kp hqy) hx hy fun h' o ho I' st' hsz kk => ?_)
    have hS' := kk S _ hS5 hS
    have hnew : H s.heap.objs.size = none := I.hok.fresh (Nat.le_refl _)
    have hne : ∀ c o, H c = some o → c ≠ s.heap.objs.size := fun c o e z => by rw [z, hnew] at e; cases e
    have kp' : Kp0 H1 (upd H s.heap.objs.size (.frz o (.tup [xs[i], ys[i]]))) := fun c o' e => by
      have := kp c o' e
      rw [upd_ne (hne c o' this)]; exact this
    have fp' : ∀ c, FpOk X pins H c → c < s.heap.objs.size → FpOk X pins (upd H s.heap.objs.size (.frz o (.tup [xs[i], ys[i]]))) c := fun c f hc => ⟨by rw [upd_ne (Nat.ne_of_lt hc)]; exact f.1, f.2⟩
    have hlS : S < s.heap.objs.size := Heap.lt_size hS
    show wpAny _ A.in1 (updateSeq S (·.push (.ref s.heap.objs.size)) >>= _) _ _ _
    refine wpAny_bind ?_
    have oth : ∀ c o', c ≠ S → h'.get? c = some o' → (h'.update S (Obj.mapSeq (·.push (Value.ref s.heap.objs.size)))).get? c = some o' := fun c o' hc e => (Heap.get?_update_other _ _ (Ne.symm hc)).trans e
    have fS' := fp' S fS hlS
    refine wpAny_updateSeq (s := { s with heap := h' }) hS' rfl (wpAny_pure ⟨plainId_quiet F.plain_extend_loop _, ih (i + 1) _ (upd H s.heap.objs.size (.frz o (.tup [xs[i], ys[i]]))) (acc.push (Value.ref s.heap.objs.size)) _ (vs ++ [V.ref s.heap.objs.size]) (by omega) hlt
      (I'.turned (t' := s.toks) (it := S) oth fS'.1 fS'.2.1 fS'.2.2.2.1 fS'.2.2.2.2.1 fS'.2.2.2.2.2) kp' ⟨by simp [zv.1], fun j v hj => ?_⟩ ?_ (fun c hc => ?_) fS' (st'.keep fun c hc o' e => oth c o' (fun q => hS5 (q ▸ hc)) e) (Heap.get?_update_self _ hS' rfl) fun h'' H'' acc' c' vs' I'' kp'' zv'' hv'' fS'' hS'' => ?_⟩)
      (by rw [hacc]; omega) (by show (acc.push _).size ≤ sizeLine + 1; rw [Array.size_push, hacc]; omega)
    · by_cases hj2 : j < vs.length
      · rw [List.getElem?_append_left hj2] at hj
        obtain ⟨T, o2, x, y, q1, q2, q3, q4, q5⟩ := zv.2 j v hj
        exact ⟨T, o2, x, y, q1, q2, q3, by rw [upd_ne (hne _ _ q4)]; exact q4, q5⟩
      · rw [List.getElem?_append_right (by omega)] at hj
        have e0 : j - vs.length = 0 := by
          by_cases z : j - vs.length = 0
          · exact z
          · rw [List.getElem?_eq_none (by simp; omega)] at hj; cases hj
        rw [e0] at hj
        simp at hj
        subst hj
        have ej : j = i := by have := zv.1; omega
        subst ej
        exact ⟨_, o, _, _, rfl, hx, hy, upd_same, ho⟩
    · rw [Array.toList_push]
      exact hv.append (.cons rfl .nil)
    · have hlt : c < s.heap.objs.size := by obtain ⟨o, e, _⟩ := st.obj c hc; exact Heap.lt_size e
      exact fp' c (hf c hc) hlt
    · exact hR h'' H'' acc' c' vs' I'' kp'' zv'' hv'' fS'' hS''
theorem list_init_zip {X : Cx} {A : Around} (hh : A.in1.handled = none) {pins : List (Addr × Obj)} {σ : L2.St} {H1 : Hp} {s : Shared} {a b S : Addr} {xs ys : List V} (hqx : SqL X.K H1 a xs) (hqy : SqL X.K H1 b ys) {z TI TO i1 i2 : Addr} (D : ZipApart z TI TO i1 i2 a b) (hS5 : S ∉ [z, TI, TO, i1, i2]) {R : Result → Shared → Prop} (hn : min xs.length ys.length ≤ sizeLine)
    (I : Inv X pins σ H1 s) (hf : ∀ b ∈ [z, TI, TO, i1, i2], FpOk X pins H1 b) (fS : FpOk X pins H1 S) (st : Ztn true z TI TO i1 i2 a b 0 s.heap) (hS : s.heap.get? S = some { cls := .type "list", data := .seq #[] })
    (hR : ∀ (h' : Heap) (H' : Hp) (acc' : Array Value) (c' : Nat) (vs' : List V), Inv X pins σ H' { s with heap := h' } → Kp0 H1 H' → Zvs H' xs ys (min xs.length ys.length) vs' → Vals vs' acc'.toList → FpOk X pins H' S → h'.get? S = some { cls := .type "list", dict := none, data := .seq acc' c', slots := #[] } → R (.ok (.ret .none)) { s with heap := h' }) :
    wpAny (model X.prog X.w) A.in1 (Builtin.«list.__init__» ⟨[.ref S, .ref z], []⟩)
      (fun fin s' => match fin with | .done f => R (.ok f) s' | .again c' => c'.quiet = true ∧ codeAny (model X.prog X.w) A c' R s') (fun e s' => R (.error e) s') s := by
  have hSz : S ≠ z := fun e => hS5 (by simp [e])
  show wpAny _ A.in1 (do let old ← Builtin.List.listItems (.ref S); Builtin.List.listUpdate (.ref S) (fun _ => #[]); letGo old.toList.reverse; Builtin.List.listExtendWith (.ref S) (.ref z) .none) _ _ s
  refine wpAny_bind ?_
  unfold Builtin.List.listItems
  refine wpAny_bind (wpAny_seqItems hS rfl (wpAny_pure ?_))
  show wpAny _ A.in1 (updateSeq S (fun _ => #[]) >>= fun _ => letGo (#[] : Array Value).toList.reverse >>= fun _ => Builtin.List.listExtendWith (.ref S) (.ref z) .none) _ _ s
  refine wpAny_bind (wpAny_updateSeq hS rfl ?_)
  have hS₂ := Heap.get?_update_self (Obj.mapSeq (fun _ => (#[] : Array Value))) hS rfl
  have oth : ∀ b o, b ≠ S → s.heap.get? b = some o → (s.heap.update S (Obj.mapSeq (fun _ => (#[] : Array Value)))).get? b = some o :=
    fun b o hb e => (Heap.get?_update_other _ _ (Ne.symm hb)).trans e
  refine wpAny_bind (wpAny_letGo ?_)
  generalize s.heap.update S (Obj.mapSeq (fun _ => (#[] : Array Value))) = h2 at *
  have st2 : Ztn true z TI TO i1 i2 a b 0 h2 := st.keep fun c hc o' e => oth c o' (fun q => hS5 (q ▸ hc)) e
  have hT : Shared.TypeIs { s with heap := h2 } (.ref z) "zip" := Zok.typeIs (s := { s with heap := h2 }) st2.1
  unfold Builtin.List.listExtendWith
  refine wpAny_bind (wpAny_typeOf hT ?_)
  have h1 : Builtin.List.listSameRef (.ref S) (.ref z) = false := by simp [Builtin.List.listSameRef, hSz]
  have h2' : (Value.type "zip" == Value.type "list") = false := by decide
  have h3 : (Value.type "zip" == Value.type "tuple") = false := by decide
  simp only [h1, h2', h3, Bool.or_false, Bool.false_eq_true, if_false]
  refine wpAny_bind (pyIter_zok (s := { s with heap := h2 }) st2.1 ?_)
  refine wpAny_bind (wpAny_holding ?_)
  unfold Builtin.List.listLengthHint
  refine wpAny_bind (wpAny_specialOf hT zip_no_len ?_)
  show wpAny _ A.in1 (specialOf (Value.ref z) (Str.ofString "__length_hint__") >>= _) _ _ _
  refine wpAny_bind (wpAny_specialOf hT zip_no_hint ?_)
  refine wpAny_pure ?_
  show wpAny _ A.in1 (rule "list.extend.makes-room" >>= fun _ => Builtin.List.listTouch (.ref S) >>= fun _ =>
    again (.builtin "list.extend.loop" ⟨[.ref S, .ref z, .none], []⟩)) _ _ _
  refine wpAny_bind (wpAny_rule ?_)
  refine wpAny_bind ?_
  show wpAny _ A.in1 (updateSeq S (·.push .none) >>= fun _ => updateSeq S (·.pop)) _ _ _
  refine wpAny_bind (wpAny_updateSeq (s := { s with heap := h2 }) hS₂ rfl ?_)
  have hS₃ := Heap.get?_update_self (Obj.mapSeq (·.push Value.none)) hS₂ rfl
  refine wpAny_updateSeq hS₃ rfl ?_
  have hS₄ := Heap.get?_update_self (Obj.mapSeq (·.pop)) hS₃ rfl
  have oth3 : ∀ b o, b ≠ S → s.heap.get? b = some o → ((h2.update S (Obj.mapSeq (·.push Value.none))).update S (Obj.mapSeq (·.pop))).get? b = some o :=
    fun b o hb e => (Heap.get?_update_other _ _ (Ne.symm hb)).trans ((Heap.get?_update_other _ _ (Ne.symm hb)).trans (oth b o hb e))
  refine wpAny_pure ⟨plainId_quiet F.plain_extend_loop _, loop_lzi hh hqx hqy D hS5 hn _ 0 { s with heap := ((h2.update S (Obj.mapSeq (·.push Value.none))).update S (Obj.mapSeq (·.pop))) } H1 _ _ [] rfl (Nat.zero_le _)
    (I.turned (t' := s.toks) (it := S) oth3 fS.1 fS.2.1 fS.2.2.2.1 fS.2.2.2.2.1 fS.2.2.2.2.2) (fun _ _ e => e) ⟨rfl, fun j v hj => by simp at hj⟩ (by first | exact .nil | (simp; exact .nil)) hf fS (st.keep fun c hc o' e => oth3 c o' (fun q => hS5 (q ▸ hc)) e) hS₄ fun h' H' acc' c' vs' I' kp' zv' hv' fS' hS' => ?_⟩
  exact hR h' H' acc' c' vs' I' kp' zv' hv' fS' hS'
theorem call_list_zip {X : Cx} {A : Around} (hh : A.handled = none) {E : Value → Shared → Prop} {pins : List (Addr × Obj)} {σ : L2.St} {H1 : Hp} {s : Shared} {a b : Addr} {xs ys : List V} (hqx : SqL X.K H1 a xs) (hqy : SqL X.K H1 b ys) {z TI TO i1 i2 : Addr} (D : ZipApart z TI TO i1 i2 a b) (hn : min xs.length ys.length ≤ sizeLine)
    (I : Inv X pins σ H1 s) (hf : ∀ b ∈ [z, TI, TO, i1, i2], FpOk X pins H1 b) (st : Ztn true z TI TO i1 i2 a b 0 s.heap) {Q : Value → Shared → Prop}
    (hQ : ∀ (p : Addr) (s' : Shared) (H' : Hp) (vs : List V), H1 p = none → (∀ c o, H1 c = some o → H' c = some o) → (∀ (j : Nat) (v : V), vs[j]? = some v → ∃ (T : Addr) (o : Obj) (x y : V), v = V.ref T ∧ xs[j]? = some x ∧ ys[j]? = some y ∧ H' T = some (.frz o (.tup [x, y])) ∧ o.dict = none) → vs.length = min xs.length ys.length → H' p = some (.lst vs) → Inv X pins σ H' s' → Q (.ref p) s') :
    wpAny (model X.prog X.w) A (call (.type "list") [.ref z]) Q E s := by
  refine callType_codes (Q₁ := fun obj s₁ => obj = .ref s.heap.objs.size ∧ s₁ = { s with heap := s.heap.push { cls := .type "list", data := .seq #[] } }) F.called_list (F.typeCall_list_1 _) F.entry_list_init
    (code_list_new _ ⟨rfl, rfl⟩) fun obj s₁ h₁ => ?_
  obtain ⟨rfl, rfl⟩ := h₁
  have hS : (s.heap.push { cls := .type "list", data := .seq #[] }).get? s.heap.objs.size = some { cls := .type "list", data := .seq #[] } := Heap.get?_push_size _ rfl
  have k0 : ∀ b o, s.heap.get? b = some o → (s.heap.push { cls := .type "list", data := .seq #[] }).get? b = some o := fun b o e => Heap.get?_push_of_some _ e
  have hS5 : s.heap.objs.size ∉ [z, TI, TO, i1, i2] := fun hm => by obtain ⟨o, e, _⟩ := st.obj _ hm; exact Nat.lt_irrefl _ (Heap.lt_size e)
  have fS : FpOk X pins H1 s.heap.objs.size := I.fpOk (Nat.le_refl _) (I.hok.fresh (Nat.le_refl _))
  refine ⟨⟨_, hS, rfl⟩, F.args_list_init_2 _ _, list_init_zip (A := A.in1) (s := { s with heap := s.heap.push { cls := .type "list", data := .seq #[] } }) hh hqx hqy D hS5 hn (I.kept (t' := s.toks) k0) hf fS (st.keep fun c _ o' e => k0 c o' e) hS fun h' H' acc' c' vs' I' kp' zv' hv' fS' hS' => ?_⟩
  refine ⟨rfl, hQ s.heap.objs.size _ (upd H' s.heap.objs.size (.lst vs')) vs' fS.1 (fun c o e => ?_) (fun j v hj => ?_) zv'.1 upd_same ?_⟩
  · have := kp' c o e
    rw [upd_ne (fun q => by rw [q, fS'.1] at this; cases this)]; exact this
  · obtain ⟨T, o, x, y, q1, q2, q3, q4, q5⟩ := zv'.2 j v hj
    exact ⟨T, o, x, y, q1, q2, q3, by rw [upd_ne (fun q => by rw [q, fS'.1] at q4; cases q4)]; exact q4, q5⟩
  · have hz : vs'.length ≤ sizeLine := by have := zv'.1; omega
    exact I'.take (t' := s.toks) (fun b ob _ e => e) fS' (show ObjOk X.prog X.w _ h' _ (.lst vs') from ⟨hz, acc'.toList, c', hv', by rw [hS']⟩)
def tLzi (K : PySem.W.Frag) (ta : TA) : TE := fun σ H Q => ta σ H fun vs H1 => ∃ a b xs ys, vs = [.ref a, .ref b] ∧ SqL K H1 a xs ∧ SqL K H1 b ys ∧ min xs.length ys.length ≤ sizeLine ∧
  ∀ (p : Addr) (H' : Hp) (zs : List V), H1 p = none → (∀ c o, H1 c = some o → H' c = some o) → (∀ (j : Nat) (v : V), zs[j]? = some v → ∃ (T : Addr) (o : Obj) (x y : V), v = V.ref T ∧ xs[j]? = some x ∧ ys[j]? = some y ∧ H' T = some (.frz o (.tup [x, y])) ∧ o.dict = none) → zs.length = min xs.length ys.length → H' p = some (.lst zs) → Q (.ref p) H'
theorem pe_lzi {X : Cx} {e e2 : Expr} {ta : TA} {p p2 pos pos2 : Pos} (hc : X.calm = true) (hg : Gl X "list") (hm : X.mg "list" = none) (hg2 : Gl X "zip") (hm2 : X.mg "zip" = none) (ha : PA X [e, e2] ta)
    (hs : starEach [e, e2] X.env = (false, eval e X.env) :: starEach [e2] X.env := by rfl) (hpl : (backTo pos2 (starEach [e2] X.env)).any (·.1) = false := by rfl)
    (hs2 : starEach [.Call (.Name "zip" p2) [e, e2] [] pos2] X.env = (false, eval (.Call (.Name "zip" p2) [e, e2] [] pos2) X.env) :: starEach [] X.env := by rfl) :
    PE X (.Call (.Name "list" p) [.Call (.Name "zip" p2) [e, e2] [] pos2] [] pos) (tLzi X.K ta) := by
  refine ⟨fun pins s σ H Q I h => ?_⟩
  refine Call_ (ld_blt I hg hm boot_list (PyProof.Rows.callWith_type1 (args_cons (Call_ (ld_blt I hg2 hm2 PyProof.Rows.boot_zip (PyProof.Rows.callWith_type1 (thn (ha.run pos2 pins s σ H _ I h) fun us s1 ⟨vs, H1, I1, r1, q1⟩ => ?_) hs hpl))) hs2) hs2 rfl))
  obtain ⟨a, b, xs, ys, ex, hqx, hqy, hn, q⟩ := q1
  subst ex
  cases r1 with
  | cons r rr =>
    cases rr with
    | cons r' rr =>
      cases rr
      cases r
      cases r'
      refine call_zipK (t := true) I1 hqx hqy fun h' z TI TO i1 i2 D I2 st hf => args_nil ?_
      refine call_list_zip (s := { s1 with heap := h' }) (I1.ok.hd hc) hqx hqy D hn I2 hf st fun p s' H' zs hp kp hz hl hH I3 => ?_
      exact ⟨.ref p, H', I3, rfl, q p H' zs hp kp hz hl hH⟩
def lziF (x y : Out) (m : Mem) : Option (Out × Mem) := (lsrc x m).bind fun s => (lsrc y m).bind fun t => some (.o (.lst (zipT s.items t.items)), m)
theorem se_lzi {X : Cx} {e : Expr} {fa fb : E} (h : PE X e (tLzi X.K (tCons (tE X.K fa) (tCons (tE X.K fb) tNil)))) : SE X e (eBin lziF fa fb) := pe_imp h fun σ H Q ⟨ι, ρ, m, z, m', rs, rm, hf, k⟩ => by
  obtain ⟨x, h1, hf⟩ := bind_some hf
  obtain ⟨y, h2, hf⟩ := bind_some hf
  obtain ⟨s1, h4, hf⟩ := bind_some hf
  obtain ⟨s2, h5, hf⟩ := bind_some hf
  cases hf
  refine ⟨ι, ρ, m, x.1, x.2, rs, rm, h1, fun v ι1 H1 l1 rm1 ro1 bd1 => ?_⟩
  refine ⟨ι1, ρ, x.2, y.1, y.2, rs.mono l1, rm1, h2, fun u ι2 H2 l2 rm2 ro2 bd2 => ?_⟩
  have ro1 := ro1.mono l2
  obtain ⟨a1, vs1, rfl, q1, r1, k1⟩ := lsrc_at (m := y.2) rm2 ro1 h4
  obtain ⟨a2, vs2, rfl, q2, r2, k2⟩ := lsrc_at rm2 ro2 h5
  have hb1 := bd2 _ _ (.inl q1)
  refine ⟨_, _, vs1, vs2, rfl, q1, q2, by omega, fun p H' zs hp kp hz hl hH bd => ?_⟩
  have l3 : Le ι2 H2 ι2 H' := ⟨⟨[], by simp, by simp⟩, fun a o e _ => kp a o e⟩
  have rm3 : RM X.K ι2 H' y.2 := ⟨rm2.nd, rm2.len, fun n b e => let ⟨a, e1, rb⟩ := rm2.ob n b e; ⟨a, e1, rb.mono l3 (by
    have hs := rb.isat
    cases q : H2 a with
    | none => exact absurd q hs
    | some o => exact kp a o q)⟩⟩
  have hrv : RVs X.K ι2 H' (zipT s1.items s2.items) zs := by
    have gen : ∀ (ds : List D) (ws : List V), ds.length = ws.length → (∀ (j : Nat) (d : D) (w : V), ds[j]? = some d → ws[j]? = some w → RV X.K ι2 H' d w) → RVs X.K ι2 H' ds ws := by
      intro ds
      induction ds with
      | nil => intro ws h _; cases ws with
        | nil => exact .nil
        | cons _ _ => simp at h
      | cons d ds ih => intro ws h g; cases ws with
        | nil => simp at h
        | cons w ws => exact .cons (g 0 d w rfl rfl) (ih ws (by simpa using h) fun j d' w' e1 e2 => g (j + 1) d' w' (by simpa using e1) (by simpa using e2))
    refine gen _ _ (by rw [zipT_len, hl, r1.length, r2.length]) fun j d w e1 e2 => ?_
    obtain ⟨d1, d2, g1, g2, rfl⟩ := zipT_get e1
    obtain ⟨T, o, x', y', rfl, g3, g4, g5, g6⟩ := hz j w e2
    obtain ⟨v1, w1, p1⟩ := r1.get g1
    obtain ⟨v2, w2, p2⟩ := r2.get g2
    rw [w1] at g3; cases g3
    rw [w2] at g4; cases g4
    exact .tup (.inl ⟨o, g5, g6⟩) (.cons (p1.mono l3) (.cons (p2.mono l3) .nil))
  exact k (.ref p) ι2 H' (l1.tr rm1 (l2.tr rm2 l3)) rm3 ⟨p, rfl, l1.back rm1 (l2.back rm2 hp), fun hi => rm2.there p hi hp, zs, hH, hrv⟩ bd
section
variable {X : Cx} {a b : Expr} {pos p p2 pos2 : Pos} {fa fb : E}
theorem lzi_ (hc : X.calm = true) (hm : X.mg "list" = none) (hm2 : X.mg "zip" = none) (ha : SE X a fa) (hb : SE X b fb) (hg : Gl X "list" := by rfl) (hg2 : Gl X "zip" := by rfl) (hs : starEach [a, b] X.env = (false, eval a X.env) :: starEach [b] X.env := by rfl) (hsb : starEach [b] X.env = (false, eval b X.env) :: starEach [] X.env := by rfl)
    (hpl : (backTo pos2 (starEach [b] X.env)).any (·.1) = false := by rfl)
    (hs2 : starEach [.Call (.Name "zip" p2) [a, b] [] pos2] X.env = (false, eval (.Call (.Name "zip" p2) [a, b] [] pos2) X.env) :: starEach [] X.env := by rfl) :
    SE X (.Call (.Name "list" p) [.Call (.Name "zip" p2) [a, b] [] pos2] [] pos) (eBin lziF fa fb) := se_lzi (pe_lzi hc hg hm hg2 hm2 (pa2 ha hb hs hsb) hs hpl hs2)
end
end Q
/-! xs[lo::k] of a list -/
namespace Q
open PySem PySem.Spec PyProof.Rows L2 HT
def pkIdx (n : Nat) (lo : Option Int) (k : Int) : List Nat := sliceRange (sliceBounds lo none (some k) n).1 (sliceBounds lo none (some k) n).2.1 (sliceBounds lo none (some k) n).2.2
def pkL {α : Type} (xs : List α) (lo : Option Int) (k : Int) : List α := (pkIdx xs.length lo k).filterMap (xs[·]?)
theorem vals_pick {xs : List V} {its : List Value} (r : Vals xs its) (is : List Nat) : Vals (is.filterMap (xs[·]?)) (is.filterMap (its[·]?)) := by
  induction is with
  | nil => exact .nil
  | cons i is ih =>
    rw [List.filterMap_cons, List.filterMap_cons]
    cases hx : xs[i]? with
    | none =>
      have : its[i]? = none := by rw [List.getElem?_eq_none_iff] at hx ⊢; rw [← r.length]; exact hx
      rw [this]; exact ih
    | some x =>
      obtain ⟨u, hu, ru⟩ := r.get hx
      rw [hu]; exact .cons ru ih
theorem rvs_pick {K : PySem.W.Frag} {ι : List Addr} {H : Hp} {xs : List D} {vs : List V} (r : RVs K ι H xs vs) (is : List Nat) : RVs K ι H (is.filterMap (xs[·]?)) (is.filterMap (vs[·]?)) := by
  induction is with
  | nil => exact .nil
  | cons i is ih =>
    rw [List.filterMap_cons, List.filterMap_cons]
    cases hx : xs[i]? with
    | none =>
      have : vs[i]? = none := by rw [List.getElem?_eq_none_iff] at hx ⊢; rw [← r.length]; exact hx
      rw [this]; exact ih
    | some x =>
      obtain ⟨u, hu, ru⟩ := r.get hx
      rw [hu]; exact .cons ru ih
theorem pick_arr (its : List Value) (lo : Option Int) (k : Int) : slicePick its.toArray lo none (some k) = (pkL its lo k).toArray := by
  unfold slicePick pkL pkIdx
  simp
def tPkL (K : PySem.W.Frag) (k : Int) (te : TE) (tl : TO) : TE := fun σ H Q => te σ H fun x H1 => tl σ H1 fun l H2 => ∃ a xs, x = .ref a ∧ SqL K H2 a xs ∧ ∀ p, H2 p = none → Q (.ref p) (upd H2 p (.lst (pkL xs l k)))
section
variable {X : Cx}
theorem pe_pkL {e : Expr} {te : TE} {lo : Option Expr} {tl : TO} {c : Int} (h0 : c ≠ 0) {kk : Nat} {p1 p3 pos : Pos} (he : PE X e te) (hl : PO X lo tl) (hst : PO X (some (.Constant (.int c) kk p1)) (tPart (tC (.int c)))) : PE X (.Subscript e (.Slice lo none (some (.Constant (.int c) kk p1)) p3) pos) (tPkL X.K c te tl) := by
  refine ⟨fun pins s σ H Q I h => ?_⟩
  refine Subscript_ (thn (he.run pins s σ H _ I h) fun v s1 ⟨x, H1, I1, r1, q1⟩ => ?_)
  refine wpAny_Slice (thn (hl.run pins s1 σ H1 _ I1 q1) fun vl s2 ⟨l, H2, I2, pl, q2⟩ => ?_)
  obtain ⟨a, xs, ex, hx, q⟩ := q2
  subst ex
  cases r1
  refine thn (po_none.run pins s2 σ H2 (fun o H3 => o = none ∧ H3 = H2) I2 ⟨rfl, rfl⟩) fun vu s3 ⟨u, H3, I3, pu, eu, e3⟩ => ?_
  subst eu e3
  refine thn (hst.run pins s3 σ H3 (fun o H4 => o = some c ∧ H4 = H3) I3 ⟨c, rfl, rfl, rfl⟩) fun vs s4 ⟨o, H4, I4, ps, eo, e4⟩ => ?_
  subst eo e4
  have I5 : Inv X pins σ H4 { s4 with heap := s4.heap.push { cls := .type "slice", data := .fields #[vl, vu, vs] } } := I4.kept (t' := s4.toks) fun b ob q => Heap.get?_push_of_some _ q
  obtain ⟨its, r, ht, hz⟩ := I5.list hx
  have hlen := r.length
  show wpAny (model X.prog X.w) X.A (subscriptTail e (.Slice lo none (some (.Constant (.int c) kk p1)) p3) (.ref a) (.ref s4.heap.objs.size)) (EP X pins σ Q) X.xe { s4 with heap := s4.heap.push { cls := .type "slice", data := .fields #[vl, vu, vs] } }
  refine tail_any (ops := [.ref a, .ref s4.heap.objs.size]) ht.isList.typeIs (PySem.slot_list_getitem.lookup) ?_ (by with_unfolding_all rfl)
  refine wpAny_getItem_list_slice ht.isList (Heap.IsSliceOf.new _ vl vu vs) pl pu ps (fun q => h0 (by simpa using q)) ?_ (by rw [List.size_toArray]; omega)
  have hpk : (pkL xs l c).length ≤ sizeLine := by
    have h1 := slicePick_size_le its.toArray l none (some c)
    rw [pick_arr, List.size_toArray, List.size_toArray] at h1
    have h2 := (vals_pick r (pkIdx its.length l c)).length
    have e1 : pkL xs l c = (pkIdx its.length l c).filterMap (xs[·]?) := by unfold pkL; rw [hlen]
    rw [e1, h2]
    exact Nat.le_trans h1 (by omega)
  refine ⟨.ref _, _, I5.laid (t' := s4.toks) (o := .lst (pkL xs l c)) (fun b ob q => Heap.get?_push_of_some _ q) (Nat.le_refl _) ?_, rfl, q _ (I5.hok.fresh (Nat.le_refl _))⟩
  refine show ObjOk X.prog X.w _ _ _ (.lst _) from ⟨hpk, pkL its l c, 0, ?_, ?_⟩
  · have := vals_pick r (pkIdx its.length l c)
    unfold pkL
    rw [hlen]; exact this
  · rw [pick_arr]; exact Heap.get?_push_size _ rfl
end
def pkF (k : Int) (x : Out) (l : Option Int) (m : Mem) : Option (Out × Mem) := (lsrc x m).bind fun s => some (.o (.lst (pkL s.items l k)), m)
@[simp] def ePk (k : Int) (a : E) (lo : O) (ρ : Env) (m : Mem) : Option (Out × Mem) := (a ρ m).bind fun x => (lo ρ x.2).bind fun l => pkF k x.1 l.1 l.2
theorem se_pk {X : Cx} {e : Expr} {lo : Option Expr} {fa : E} {fl : O} {c : Int} (h0 : PE X e (tPkL X.K c (tE X.K fa) (tO X.K fl))) : SE X e (ePk c fa fl) := pe_imp h0 fun σ H Q ⟨ι, ρ, m, z, m', rs, rm, hf, k⟩ => by
  obtain ⟨x, h1, hf⟩ := bind_some hf
  obtain ⟨l, h2, hf⟩ := bind_some hf
  obtain ⟨s, h3, hf⟩ := bind_some hf
  cases hf
  refine ⟨ι, ρ, m, x.1, x.2, rs, rm, h1, fun v ι1 H1 l1 rm1 ro1 bd1 => ?_⟩
  refine ⟨ι1, ρ, x.2, l.1, l.2, rs.mono l1, rm1, h2, fun ι2 H2 l2 rm2 => ?_⟩
  obtain ⟨a, vs, rfl, hs, r, al⟩ := lsrc_at (m := l.2) rm2 (ro1.mono l2) h3
  refine ⟨a, vs, rfl, hs, fun p hp bd => k _ ι2 _ (l1.tr rm1 (l2.tr rm2 (Le.newAt hp))) (rm2.newAt hp) ((new_lst rm2 hp ?_).from (l1.tr rm1 l2) rm2) bd⟩
  have := rvs_pick r (pkIdx s.items.length l.1 c)
  unfold pkL
  rw [r.length] at this ⊢
  exact this
section
variable {X : Cx} {a : Expr} {pos p1 p3 : Pos} {fa : E}
theorem pk_ {lo : Option Expr} {fl : O} {c : Int} {kk : Nat} (h0 : c ≠ 0) (ha : SE X a fa) (hl : PO X lo (tO X.K fl)) : SE X (.Subscript a (.Slice lo none (some (.Constant (.int c) kk p1)) p3) pos) (ePk c fa fl) := se_pk (lo := lo) (pe_pkL h0 ha hl (po_some pe_int))
end
theorem filterMap_len {α β : Type} (f : α → Option β) : ∀ l : List α, (l.filterMap f).length ≤ l.length
  | [] => by simp
  | x :: xs => by
    have := filterMap_len f xs
    rw [List.filterMap_cons]
    cases f x <;> simp <;> omega
theorem pkL_len {α : Type} (xs : List α) (lo : Option Int) (k : Int) : (pkL xs lo k).length ≤ (pkIdx xs.length lo k).length := filterMap_len _ _
theorem pkL_mem {α : Type} {xs : List α} {lo : Option Int} {k : Int} {x : α} (h : x ∈ pkL xs lo k) : x ∈ xs := by
  unfold pkL at h
  obtain ⟨i, _, e⟩ := List.mem_filterMap.mp h
  exact List.mem_of_getElem? e
theorem pkL_map {α β : Type} (f : α → β) (xs : List α) (lo : Option Int) (k : Int) : pkL (xs.map f) lo k = (pkL xs lo k).map f := by
  unfold pkL
  rw [List.length_map, List.map_filterMap]
  refine flm_congr _ fun i _ => ?_
  simp
theorem pkL_le {α : Type} (xs : List α) (lo : Option Int) (k : Int) : (pkL xs lo k).length ≤ xs.length := by
  have h := slicePick_size_le ((List.replicate xs.length (Value.none)).toArray) lo none (some k)
  rw [pick_arr, List.size_toArray, List.size_toArray, List.length_replicate] at h
  have e : (pkL (xs.map fun _ => Value.none) lo k).length = (pkL xs lo k).length := by rw [pkL_map, List.length_map]
  rw [← e]
  have : xs.map (fun _ => Value.none) = List.replicate xs.length Value.none := by
    apply List.ext_getElem
    · simp
    · intro i h1 h2; simp
  rw [this]; exact h
end Q
namespace Q
open PySem L2
def kPk1 (k : Int) (lo : O) (ρ : Env) (Q : PO2) (x : Out) (M : Mem) : Prop := WN lo ρ M fun l M => WO (pkF k x l M) Q
def kPk2 (k : Int) (Q : PO2) (x : Out) (l : Option Int) (M : Mem) : Prop := WO (pkF k x l M) Q
def kiZpk1 (b : E) (ρ : Env) (Q : Src → Mem → Prop) (x : Out) (M : Mem) : Prop := WE b ρ M fun y M => WSrc (zpkOf x y) M Q
def kiZpk2 (Q : Src → Mem → Prop) (x : Out) (y : Out) (M : Mem) : Prop := WSrc (zpkOf x y) M Q
section
variable {a b c : E} {ρ : Env} {M : Mem} {Q : PO2} {QI : Src → Mem → Prop} {x y z : Out} {lo : O} {k : Int}
theorem we_pk : WE (ePk k a lo) ρ M Q ↔ WE a ρ M (kPk1 k lo ρ Q) := by
  unfold WE ePk; rw [bex2]; refine exists_congr fun x => exists_congr fun y => and_congr_right fun _ => ?_
  unfold kPk1 WN; rw [bex2]; exact Iff.rfl
theorem kPk1_eq : kPk1 k lo ρ Q x M ↔ WN lo ρ M (kPk2 k Q x) := Iff.rfl
theorem kPk2_eq {l : Option Int} : kPk2 k Q x l M ↔ WO (pkF k x l M) Q := Iff.rfl
theorem wi_zpk : WI (iZpk a b) ρ M QI ↔ WE a ρ M (kiZpk1 b ρ QI) := by
  unfold WI WE iZpk; rw [bex2]; refine exists_congr fun x => exists_congr fun y => and_congr_right fun _ => ?_
  rw [bex2]; unfold kiZpk1 WE WSrc; refine exists_congr fun x => exists_congr fun y => and_congr_right fun _ => ?_
  constructor
  · rintro ⟨r, s, e, p⟩; obtain ⟨u, e1, e2⟩ := bind_some e; cases e2; exact ⟨_, e1, p⟩
  · rintro ⟨u, e1, p⟩; exact ⟨u, y, by simp only at e1 ⊢; rw [e1]; rfl, p⟩
theorem kiZpk1_eq : kiZpk1 b ρ QI x M ↔ WE b ρ M (kiZpk2 QI x) := Iff.rfl
theorem kiZpk2_eq : kiZpk2 QI x y M ↔ WSrc (zpkOf x y) M QI := Iff.rfl
end
def wzn := And.intro @we_pk (And.intro @kPk1_eq (And.intro @kPk2_eq (And.intro @wi_zpk (And.intro @kiZpk1_eq @kiZpk2_eq))))
end Q
namespace Q
open PySem L2
/-! ### dicts by their entries: what is held behind a store -/
open Classical in
theorem dlook_nil (k : D) : dlook [] k = none := rfl
open Classical in
theorem dlook_cons (p : D × D) (r : List (D × D)) (k : D) : dlook (p :: r) k = if p.1 = k then some p.2 else dlook r k := by
  unfold dlook
  by_cases h : p.1 = k
  · rw [List.find?_cons_of_pos (by simp [h]), if_pos h]; rfl
  · rw [List.find?_cons_of_neg (by simp [h]), if_neg h]
open Classical in
theorem dlook_app (r : List (D × D)) (k j v : D) : dlook (r ++ [(k, v)]) j = match dlook r j with | some u => some u | none => if k = j then some v else none := by
  induction r with
  | nil => rw [List.nil_append, dlook_cons, dlook_nil]
  | cons p r ih =>
    rw [List.cons_append, dlook_cons, dlook_cons]
    by_cases h : p.1 = j
    · rw [if_pos h, if_pos h]
    · rw [if_neg h, if_neg h]; exact ih
open Classical in
theorem dlook_put (r : List (D × D)) (k j v : D) : dlook (r.map fun p => if p.1 = k then (p.1, v) else p) j = if j = k then (dlook r k).map (fun _ => v) else dlook r j := by
  induction r with
  | nil => simp [dlook_nil]
  | cons p r ih =>
    rw [List.map_cons, dlook_cons, ih]
    by_cases hp : p.1 = k
    · rw [if_pos hp]
      by_cases hj : j = k
      · subst hj
        rw [if_pos (show (p.1, v).1 = j from hp), if_pos rfl, dlook_cons, if_pos hp]; rfl
      · rw [if_neg (show ¬ (p.1, v).1 = j from fun z => hj (z.symm.trans hp)), if_neg hj, if_neg hj, dlook_cons, if_neg (fun z => hj (z.symm.trans hp))]
    · rw [if_neg hp]
      by_cases hj : j = k
      · subst hj
        rw [if_neg hp, if_pos rfl, if_pos rfl, dlook_cons, if_neg hp]
      · rw [if_neg hj, if_neg hj, dlook_cons]
open Classical in
theorem dlook_sto (r : List (D × D)) (k j v : D) : dlook (dsto r k v) j = if j = k then some v else dlook r j := by
  unfold dsto
  by_cases h : (dlook r k).isSome = true
  · rw [if_pos h, dlook_put]
    obtain ⟨u, hu⟩ := Option.isSome_iff_exists.mp h
    rw [hu]; rfl
  · rw [if_neg h, dlook_app]
    have hn : dlook r k = none := by cases q : dlook r k with | none => rfl | some _ => rw [q] at h; exact absurd rfl h
    by_cases hj : j = k
    · subst hj; rw [hn, if_pos rfl]
    · rw [if_neg hj]
      cases dlook r j with
      | none => simp only; rw [if_neg (fun z => hj z.symm)]
      | some u => rfl
theorem dsto_new {r : List (D × D)} {k v : D} (h : dlook r k = none) : dsto r k v = r ++ [(k, v)] := by unfold dsto; rw [h]; rfl
theorem dsto_len (r : List (D × D)) (k v : D) : (dsto r k v).length ≤ r.length + 1 := by
  unfold dsto; split <;> simp
/-- a dict of lists that grows by setdefault and append -/
structure Grp (lo : Nat) (M : Mem) (a : Nat) (f : D → List D) (n : Nat) : Prop where
  ex : ∃ kvs, M[a]? = some (.dcr kvs) ∧ kvs.length ≤ n ∧ (∀ key v, dlook kvs key = some v → ∃ j, v = .ref j ∧ lo ≤ j ∧ j ≠ a ∧ M[j]? = some (.lst (f key)) ∧ f key ≠ []) ∧ (∀ key, dlook kvs key = none → f key = []) ∧
    ∀ k1 k2 j, dlook kvs k1 = some (.ref j) → dlook kvs k2 = some (.ref j) → k1 = k2
/-- what stands below lo stays -/
def Low (lo : Nat) (M M' : Mem) : Prop := M.length ≤ M'.length ∧ ∀ i, i < lo → M'[i]? = M[i]?
theorem Low.refl (lo : Nat) (M : Mem) : Low lo M M := ⟨Nat.le_refl _, fun _ _ => rfl⟩
theorem Low.trans {lo : Nat} {M M1 M2 : Mem} (h : Low lo M M1) (k : Low lo M1 M2) : Low lo M M2 := ⟨Nat.le_trans h.1 k.1, fun i hi => (k.2 i hi).trans (h.2 i hi)⟩
theorem Low.app {M M' : Mem} (h : Low M.length M M') : ∃ e, M' = M ++ e := by
  refine ⟨M'.drop M.length, ?_⟩
  apply List.ext_getElem?
  intro i
  by_cases hi : i < M.length
  · rw [h.2 i hi, List.getElem?_append_left hi]
  · rw [List.getElem?_append_right (by omega), List.getElem?_drop]; congr 1; omega
theorem low_set {lo n : Nat} {M : Mem} {o : Ob} (h : lo ≤ n) : Low lo M (M.set n o) := ⟨by simp, fun i hi => by rw [List.getElem?_set_ne (by omega)]⟩
theorem low_app {lo : Nat} {M e : Mem} (h : lo ≤ M.length) : Low lo M (M ++ e) := ⟨by simp, fun i hi => by rw [List.getElem?_append_left (by omega)]⟩
/-- the same but for the place a -/
def LowA (lo a : Nat) (M M' : Mem) : Prop := M.length ≤ M'.length ∧ ∀ i, i < lo → i ≠ a → M'[i]? = M[i]?
theorem LowA.low {lo a : Nat} {M M' : Mem} (h : LowA lo a M M') (ha : lo ≤ a) : Low lo M M' := ⟨h.1, fun i hi => h.2 i hi (by omega)⟩
theorem LowA.trans {lo a : Nat} {M M1 M2 : Mem} (h : LowA lo a M M1) (k : LowA lo a M1 M2) : LowA lo a M M2 := ⟨Nat.le_trans h.1 k.1, fun i hi ha => (k.2 i hi ha).trans (h.2 i hi ha)⟩
theorem Low.a {lo a : Nat} {M M' : Mem} (h : Low lo M M') : LowA lo a M M' := ⟨h.1, fun i hi _ => h.2 i hi⟩
theorem lowA_set {lo a : Nat} {M : Mem} {o : Ob} : LowA lo a M (M.set a o) := ⟨by simp, fun i hi hn => by rw [List.getElem?_set_ne (Ne.symm hn)]⟩
open Classical in
theorem Grp.step {lo a n : Nat} {M : Mem} {f : D → List D} (h : Grp lo M a f n) {key x : D} (hk : keyOf (.v key) = some key) (hn : n ≤ 90000) (hl : (f key).length ≤ 90000) (hlo : lo ≤ M.length) :
    ∃ j M1 M2, setdF (.v (.ref a)) (.v key) (.o (.lst [])) M = some (.v (.ref j), M1) ∧ isTyB "list" (.v (.ref j)) M1 = true ∧ appF (.v (.ref j)) (.v x) M1 = some (.v .non, M2) ∧ LowA lo a M M2 ∧ Grp lo M2 a (fun k => if k = key then f k ++ [x] else f k) (n + 1) := by
  obtain ⟨kvs, e1, hz, h1, h2, h3⟩ := h
  have hf : fits (kvs.length + 1) := fits_of (by omega)
  have haM : a < M.length := (List.getElem?_eq_some_iff.mp e1).1
  cases hd : dlook kvs key with
  | some v =>
    obtain ⟨j, rfl, hj, hja, e2, hne⟩ := h1 key v hd
    have hjM : j < M.length := (List.getElem?_eq_some_iff.mp e2).1
    have hf2 : fits ((f key).length + 1) := fits_of (by omega)
    refine ⟨j, M, M.set j (.lst (f key ++ [x])), by simp only [setdF, e1, hk, Option.bind_some, if_pos hf, hd], isT_ref e2, by simp only [appF, e2, if_pos hf2, val_v], (low_set hj).a, kvs, ?_, by omega, fun k v hv => ?_, fun k hkn => ?_, h3⟩
    · rw [List.getElem?_set_ne hja]; exact e1
    · obtain ⟨i, rfl, hi, hia, e3, hne'⟩ := h1 k v hv
      refine ⟨i, rfl, hi, hia, ?_, ?_⟩
      · by_cases hkk : k = key
        · subst hkk
          rw [hd] at hv; cases hv
          rw [if_pos rfl, List.getElem?_set_self hjM]
        · rw [if_neg hkk, List.getElem?_set_ne (fun z => hkk (by subst z; exact h3 k key j hv hd))]; exact e3
      · by_cases hkk : k = key
        · rw [if_pos hkk]; simp
        · rw [if_neg hkk]; exact hne'
    · have : k ≠ key := fun z => by subst z; rw [hd] at hkn; cases hkn
      rw [if_neg this]; exact h2 k hkn
  | none =>
    have hfk := h2 key hd
    have hset : ((M ++ [Ob.lst []]).set a (.dcr (dsto kvs key (.ref M.length))))[M.length]? = some (.lst []) := by
      rw [List.getElem?_set_ne (by omega)]; simp
    have hf2 : fits (([] : List D).length + 1) := fits_of (by simp)
    refine ⟨M.length, (M ++ [Ob.lst []]).set a (.dcr (dsto kvs key (.ref M.length))), ((M ++ [Ob.lst []]).set a (.dcr (dsto kvs key (.ref M.length)))).set M.length (.lst ([] ++ [x])), by simp only [setdF, e1, hk, Option.bind_some, if_pos hf, hd, val_o], isT_ref hset,
      by simp only [appF, hset, if_pos hf2, val_v], ((low_app hlo).a.trans lowA_set).trans (low_set hlo).a, dsto kvs key (.ref M.length), ?_, ?_, fun k v hv => ?_, fun k hkn => ?_, fun k1 k2 j hk1 hk2 => ?_⟩
    · rw [List.getElem?_set_ne (by omega), List.getElem?_set_self (by simp; omega)]
    · have := dsto_len kvs key (.ref M.length); omega
    · rw [dlook_sto] at hv
      by_cases hkk : k = key
      · subst hkk
        rw [if_pos rfl] at hv; cases hv
        refine ⟨M.length, rfl, hlo, by omega, ?_, ?_⟩
        · rw [if_pos rfl, hfk, List.getElem?_set_self (by simp)]
        · rw [if_pos rfl]; simp
      · rw [if_neg hkk] at hv
        obtain ⟨i, rfl, hi, hia, e3, hne'⟩ := h1 k v hv
        have hiM : i < M.length := (List.getElem?_eq_some_iff.mp e3).1
        refine ⟨i, rfl, hi, hia, ?_, by rw [if_neg hkk]; exact hne'⟩
        rw [if_neg hkk, List.getElem?_set_ne (by omega), List.getElem?_set_ne (by omega), List.getElem?_append_left hiM]; exact e3
    · rw [dlook_sto] at hkn
      by_cases hkk : k = key
      · rw [if_pos hkk] at hkn; cases hkn
      · rw [if_neg hkk] at hkn ⊢; exact h2 k hkn
    · rw [dlook_sto] at hk1 hk2
      by_cases q1 : k1 = key
      · by_cases q2 : k2 = key
        · rw [q1, q2]
        · rw [if_pos q1] at hk1; rw [if_neg q2] at hk2
          cases hk1
          obtain ⟨i, e, _, _, e3, _⟩ := h1 k2 _ hk2
          cases e
          have := (List.getElem?_eq_some_iff.mp e3).1
          omega
      · by_cases q2 : k2 = key
        · rw [if_neg q1] at hk1; rw [if_pos q2] at hk2
          cases hk2
          obtain ⟨i, e, _, _, e3, _⟩ := h1 k1 _ hk1
          cases e
          have := (List.getElem?_eq_some_iff.mp e3).1
          omega
        · rw [if_neg q1] at hk1; rw [if_neg q2] at hk2; exact h3 k1 k2 j hk1 hk2
/-- it stays, where the dict and its lists stay -/
theorem Grp.keep {lo a n : Nat} {M M' : Mem} {f : D → List D} (h : Grp lo M a f n) (ha : M'[a]? = M[a]?) (hk : ∀ i, lo ≤ i → i < M.length → M'[i]? = M[i]?) : Grp lo M' a f n := by
  obtain ⟨kvs, e1, hz, h1, h2, h3⟩ := h
  refine ⟨kvs, by rw [ha]; exact e1, hz, fun k v hv => ?_, h2, h3⟩
  obtain ⟨j, e, hj, hja, e2, hne⟩ := h1 k v hv
  exact ⟨j, e, hj, hja, by rw [hk j hj (List.getElem?_eq_some_iff.mp e2).1]; exact e2, hne⟩
theorem Grp.new {lo a : Nat} {M : Mem} (h : M[a]? = some (.dcr [])) : Grp lo M a (fun _ => []) 0 :=
  ⟨[], h, by simp, fun k v hv => (by rw [dlook_nil] at hv; cases hv), fun _ _ => rfl, fun k1 k2 j hk => (by rw [dlook_nil] at hk; cases hk)⟩
noncomputable def _law_begin_C1 (ρ : Env) (m : Mem) : Option (Bool × Mem) := (bOf (eBin geF (eVar 2) (eBin powF (eC (.int 10)) (eC (.int 18))))) ρ m
theorem w__law_begin_C1 {ρ : Env} {M : Mem} {Q : Bool → Mem → Prop} : WB _law_begin_C1 ρ M Q ↔ WB (bOf (eBin geF (eVar 2) (eBin powF (eC (.int 10)) (eC (.int 18))))) ρ M Q := Iff.rfl
noncomputable def _law_begin_E1 (ρ : Env) (m : Mem) : Option (Out × Mem) := (eVar 2) ρ m
theorem w__law_begin_E1 {ρ : Env} {M : Mem} {Q : PO2} : WE _law_begin_E1 ρ M Q ↔ WE (eVar 2) ρ M Q := Iff.rfl
noncomputable def _law_begin_F1 (ρ : Env) (m : Mem) : Option R := (sSet 1 (eBin modF (eBin addF (eBin addF (eBin mulF (eVar 1) (eC (.int 6364136223846793005))) (eVar 2)) (eC (.int 1442695040888963407))) (eC (.int 2305843009213693951)))) ρ m
theorem w__law_begin_F1 {ρ : Env} {M : Mem} {Q : R → Prop} : WS _law_begin_F1 ρ M Q ↔ WS (sSet 1 (eBin modF (eBin addF (eBin addF (eBin mulF (eVar 1) (eC (.int 6364136223846793005))) (eVar 2)) (eC (.int 1442695040888963407))) (eC (.int 2305843009213693951)))) ρ M Q := Iff.rfl
noncomputable def m__law_begin : Fn := fnD 1 3
    (sSeq (sSet 1 (eC (.int 7)))
    (sSeq (sFor (iE (eSl (eVar 0) oNone (oSome (eC (.int 63))))) (gT (.nm 2)) _law_begin_F1)
    (sRet (eKd (aCons (eC (.str "great")) (aCons (eComp (iE (eSl (eVar 0) oNone (oSome (eC (.int 63))))) [2] (.nm 2) _law_begin_C1 _law_begin_E1) (aCons (eC (.str "seed")) (aCons (eVar 1) aNil))))))))
noncomputable def m__law_next : Fn := fnD 2 4
    (sSeq (sIf (bOf (eBin neF (eBin kixF (eVar 0) (eC (.str "great"))) (eLst aNil))) (sSeq (sSet 3 (eBin modF (eBin ixF (eBin kixF (eVar 0) (eC (.str "great"))) (eC (.int 0))) (eVar 1)))
    (sSeq (sPut (eBin divF (eBin ixF (eBin kixF (eVar 0) (eC (.str "great"))) (eC (.int 0))) (eVar 1)) (gIx (eBin kixF (eVar 0) (eC (.str "great"))) (eC (.int 0))))
    (sSeq (sIf (bOf (eBin eqF (eBin ixF (eBin kixF (eVar 0) (eC (.str "great"))) (eC (.int 0))) (eC (.int 0)))) (sDo (eMt1 "list" popF (eBin kixF (eVar 0) (eC (.str "great"))) (eC (.int 0)))) sNil)
    (sRet (eVar 3))))) sNil)
    (sSeq (sKput (eBin modF (eBin addF (eBin mulF (eBin kixF (eVar 0) (eC (.str "seed"))) (eC (.int 3935559000370003845))) (eC (.int 2691343689449507681))) (eC (.int 2305843009213693951))) (eVar 0) (eC (.str "seed")))
    (sSeq (sSet 2 (eBin divF (eBin kixF (eVar 0) (eC (.str "seed"))) (eC (.int 65537))))
    (sRet (eBin modF (eBin divF (eBin modF (eBin mulF (eVar 2) (eVar 2)) (eC (.int 998244353))) (eC (.int 3))) (eVar 1))))))
/-! ### the state: a dict of a list of cells and a seed -/
def kGreat : D := .str "great"
def kSeed : D := .str "seed"
def stt (b : Nat) (s : Int) : List (D × D) := [(.str "great", .ref b), (.str "seed", .int s)]
def S3 (a b : Nat) (M : Mem) : Prop := ∃ (cs : List Int) (s : Int), M[a]? = some (.dct (stt b s)) ∧ M[b]? = some (.lst (cs.map .int)) ∧ (∀ c ∈ cs, 0 < c) ∧ cs.length ≤ 1000 ∧ 0 ≤ s ∧ s < 2305843009213693951 ∧ a ≠ b
theorem gs_ne : ¬ (D.str "great" = D.str "seed") := by
  intro h
  injection h with h
  exact absurd h (by decide)
theorem look_great (b : Nat) (s : Int) : dlook (stt b s) (.str "great") = some (.ref b) := by rw [stt, dlook_cons, if_pos rfl]
theorem look_seed (b : Nat) (s : Int) : dlook (stt b s) (.str "seed") = some (.int s) := by rw [stt, dlook_cons, if_neg gs_ne, dlook_cons, if_pos rfl]
theorem kix_great {a b : Nat} {s : Int} {M : Mem} (h : M[a]? = some (.dct (stt b s))) : kixF (.v (.ref a)) (.v (.str "great")) M = some (.v (.ref b), M) := by
  simp only [kixF, kdOf, h, Option.bind_some, key1, look_great, Option.map_some]
theorem kix_seed {a b : Nat} {s : Int} {M : Mem} (h : M[a]? = some (.dct (stt b s))) : kixF (.v (.ref a)) (.v (.str "seed")) M = some (.v (.int s), M) := by
  simp only [kixF, kdOf, h, Option.bind_some, key1, look_seed, Option.map_some]
theorem ksto_seed {a b : Nat} {s s2 : Int} {M : Mem} (h : M[a]? = some (.dct (stt b s))) : kstoF (.v (.ref a)) (.v (.str "seed")) (.int s2) M = some (M.set a (.dct (stt b s2))) := by
  have hf : fits ((stt b s).length + 1) := fits_of (by simp [stt])
  have e : dsto (stt b s) (.str "seed") (.int s2) = stt b s2 := by
    unfold dsto
    rw [look_seed]
    have hs : ¬ Str.ofString "great" = Str.ofString "seed" := fun h => absurd h (by decide)
    simp [stt]
    exact hs
  simp only [kstoF, h, key1, Option.bind_some, if_pos hf, e]
theorem kFn_fr {M M2 : Mem} {ab : List Nat} {d : D} {K : PO2} (f : Fr ab M M2) (ho : ∀ i ∈ ab, ∀ o, M2[i]? = some o → o.lo M.length) (hd : d.lo M.length) : kFn M K (.rt (.v d) M2) ↔ K (.v d) M2 := by
  have ok : okM M M2 := fun i o hi hio => by
    by_cases h : i ∈ ab
    · exact .inr (ho i h o hio)
    · left; rw [← f.2 i h]; exact hio
  rw [kFn_rt]
  have : shut M (.v d) M2 = (.v d, M2) := by
    unfold shut
    rw [if_pos ok]
    simp only [if_pos hd]
    rw [← f.1]; simp
  rw [this]
theorem get_set {M : Mem} {b : Nat} {o o' : Ob} (h : M[b]? = some o) : (M.set b o')[b]? = some o' := by
  rw [List.getElem?_set_self (List.getElem?_eq_some_iff.mp h).1]
theorem fr_set {M : Mem} {b : Nat} {o : Ob} {ab : List Nat} (h : b ∈ ab) : Fr ab M (M.set b o) := ⟨by simp, fun i hi => by rw [List.getElem?_set_ne]; intro e; subst e; exact hi h⟩
theorem S3.lo {a b : Nat} {M : Mem} {n : Nat} (hb : b < n) (h : S3 a b M) : ∀ i ∈ [a, b], ∀ o, M[i]? = some o → o.lo n := by
  obtain ⟨cs, s, h1, h2, _⟩ := h
  intro i hi o ho
  simp at hi
  rcases hi with rfl | rfl
  · rw [h1] at ho; cases ho; simp [Ob.lo, loK, stt]; exact hb
  · rw [h2] at ho; cases ho; show loL _ _; rw [loL_iff]; intro d hd; simp at hd; obtain ⟨c, _, rfl⟩ := hd; simp
theorem okL_ints (n : Nat) : ∀ cs : List Int, okL n (cs.map .int) = true
  | [] => by simp [okL]
  | c :: r => by simp [okL, okD, okL_ints n r]
theorem ne_cells {b : Nat} {cs : List Int} {M : Mem} (h : M[b]? = some (.lst (cs.map .int))) : neF (.v (.ref b)) (.o (.lst [])) M = some (.v (.bl (!cs.isEmpty)), M) := by
  have h1 : okD 64 (.fl (cs.map .int)) = true := by rw [okD]; exact okL_ints 63 cs
  have h2 : okD 64 (.fl []) = true := by simp [okD, okL]
  simp only [neF, form, h, Option.bind_some, if_pos (And.intro h1 h2)]
  cases cs with
  | nil => simp [D.eqb, eqbL]
  | cons p T => simp [D.eqb, eqbL]
theorem pop_cell {b : Nat} {x : Int} {r : List Int} {M : Mem} (h : M[b]? = some (.lst ((x :: r).map .int))) : popF (.v (.ref b)) (.v (.int 0)) M = some (.v (.int x), M.set b (.lst (r.map .int))) := by
  simp [popF, h, seqIndex?, i63_of]
theorem next3 {a b : Nat} {M : Mem} (h : S3 a b M) {n : Nat} (hn : 0 < n) (hn2 : n ≤ 100000) {K : PO2} (k : ∀ (r : Nat) (M' : Mem), r < n → S3 a b M' → Fr [a, b] M M' → K (.v (.int (r : Int))) M') : WO (m__law_next [.ref a, .int (n : Int)] M) K := by
  have hS := h
  obtain ⟨cs, s, h1, h2, hc, hcl, hs0, hs1, hab⟩ := h
  have hbM : b < M.length := (List.getElem?_eq_some_iff.mp h2).1
  have hdv : divOk (n : Int) := divOk_nat hn hn2
  have emod : ∀ (i : Int) (M : Mem), modF (.v (.int i)) (.v (.int (n : Int))) M = some (.v (.int (i % (n : Int))), M) := fun i M => by rw [mod_int, if_pos (by omega)]
  have ediv : ∀ (i : Int) (M : Mem), divF (.v (.int i)) (.v (.int (n : Int))) M = some (.v (.int (i / (n : Int))), M) := fun i M => by rw [div_int, if_pos hdv]
  unfold m__law_next
  simp only [wp, wx, wf, Nat.reduceSub, kix_great h1, ne_cells h2]
  cases cs with
  | nil =>
    have hm : mulOk s 3935559000370003845 := .inl ⟨by omega, by omega⟩
    have hs2 : (s * 3935559000370003845 + 2691343689449507681) % 2305843009213693951 < 2305843009213693951 := Int.emod_lt_of_pos _ (by omega)
    have hs3 : 0 ≤ (s * 3935559000370003845 + 2691343689449507681) % 2305843009213693951 := Int.emod_nonneg _ (by omega)
    have e1 : modF (.v (.int (s * 3935559000370003845 + 2691343689449507681))) (.v (.int 2305843009213693951)) M = some (.v (.int ((s * 3935559000370003845 + 2691343689449507681) % 2305843009213693951)), M) := by rw [mod_int, if_pos (by omega)]
    generalize hS2 : (s * 3935559000370003845 + 2691343689449507681) % 2305843009213693951 = s2 at hs2 hs3 e1
    have g1 : (M.set a (.dct (stt b s2)))[a]? = some (.dct (stt b s2)) := get_set h1
    have g2 : (M.set a (.dct (stt b s2)))[b]? = some (.lst (([] : List Int).map .int)) := by rw [List.getElem?_set_ne hab]; exact h2
    have f2 : Fr [a, b] M (M.set a (.dct (stt b s2))) := fr_set (by simp)
    have hS3 : S3 a b (M.set a (.dct (stt b s2))) := ⟨[], s2, g1, g2, by simp, by simp, hs3, hs2, hab⟩
    have e2 : divF (.v (.int s2)) (.v (.int 65537)) (M.set a (.dct (stt b s2))) = some (.v (.int (s2 / 65537)), M.set a (.dct (stt b s2))) := by rw [div_int, if_pos divOk_65537]
    have q1 : 0 ≤ s2 / 65537 := Int.ediv_nonneg hs3 (by omega)
    have q2 : s2 / 65537 < 2 ^ 64 := by omega
    generalize s2 / 65537 = mx at e2 q1 q2
    have hm2 : mulOk mx mx := .inl ⟨by omega, q2⟩
    have e3 : ∀ M : Mem, modF (.v (.int (mx * mx))) (.v (.int 998244353)) M = some (.v (.int (mx * mx % 998244353)), M) := fun M => by rw [mod_int, if_pos (by omega)]
    have e4 : ∀ (i : Int) (M : Mem), divF (.v (.int i)) (.v (.int 3)) M = some (.v (.int (i / 3)), M) := fun i M => by rw [div_int, if_pos ⟨by omega, by omega⟩]
    simp only [List.isEmpty_nil, Bool.not_true, wp, wx, wq, kix_seed h1, mul_int, if_pos hm, add_int, e1, ksto_seed h1, kix_seed g1, e2, if_pos hm2, e3, e4, emod]
    have hr : 0 ≤ mx * mx % 998244353 / 3 % (n : Int) := Int.emod_nonneg _ (by omega)
    have hr2 : mx * mx % 998244353 / 3 % (n : Int) < (n : Int) := Int.emod_lt_of_pos _ (by omega)
    rw [kFn_fr f2 (hS3.lo hbM) (by simp)]
    have := k (mx * mx % 998244353 / 3 % (n : Int)).toNat _ (by omega) hS3 f2
    rw [Int.toNat_of_nonneg hr] at this
    exact this
  | cons c r =>
    have hc0 : 0 < c := hc c (by simp)
    have hr : 0 ≤ c % (n : Int) := Int.emod_nonneg _ (by omega)
    have hr2 : c % (n : Int) < (n : Int) := Int.emod_lt_of_pos _ (by omega)
    have i0 : ∀ (M : Mem) (x : Int), M[b]? = some (.lst ((x :: r).map .int)) → ixF (.v (.ref b)) (.v (.int 0)) M = some (.v (.int x), M) := fun M x hM => by
      simp [ixF, seqOf, hM, atI, ixN]
    have g1 : (M.set b (.lst ((c / (n : Int) :: r).map .int)))[b]? = some (.lst ((c / (n : Int) :: r).map .int)) := get_set h2
    have g2 : (M.set b (.lst ((c / (n : Int) :: r).map .int)))[a]? = some (.dct (stt b s)) := by rw [List.getElem?_set_ne (Ne.symm hab)]; exact h1
    have f2 : Fr [a, b] M (M.set b (.lst ((c / (n : Int) :: r).map .int))) := fr_set (by simp)
    have es : stoF (.v (.ref b)) (.v (.int 0)) (.int (c / (n : Int))) M = some (M.set b (.lst ((c / (n : Int) :: r).map .int))) := by
      simp [stoF, h2, atI, ixN]
    simp only [List.isEmpty_cons, Bool.not_false, wp, wx, kix_great h1, i0 M c h2, emod, ediv, es, kix_great g2, i0 _ _ g1, eq_int]
    by_cases hz : c / (n : Int) = 0
    · have ep : popF (.v (.ref b)) (.v (.int 0)) (M.set b (.lst ((c / (n : Int) :: r).map .int))) = some (.v (.int (c / (n : Int))), (M.set b (.lst ((c / (n : Int) :: r).map .int))).set b (.lst (r.map .int))) := pop_cell g1
      have g3 : ((M.set b (.lst ((c / (n : Int) :: r).map .int))).set b (.lst (r.map .int)))[b]? = some (.lst (r.map .int)) := get_set g1
      have g4 : ((M.set b (.lst ((c / (n : Int) :: r).map .int))).set b (.lst (r.map .int)))[a]? = some (.dct (stt b s)) := by rw [List.getElem?_set_ne (Ne.symm hab)]; exact g2
      have f3 : Fr [a, b] M ((M.set b (.lst ((c / (n : Int) :: r).map .int))).set b (.lst (r.map .int))) := f2.trans (fr_set (by simp))
      have hS3 : S3 a b ((M.set b (.lst ((c / (n : Int) :: r).map .int))).set b (.lst (r.map .int))) := ⟨r, s, g4, g3, fun d hd => hc d (by simp [hd]), by simp at hcl; omega, hs0, hs1, hab⟩
      simp only [decide_eq_true hz, wp, wx, kix_great g2, isT_ref g1, ep]
      rw [kFn_fr f3 (hS3.lo hbM) (by simp)]
      have := k (c % (n : Int)).toNat _ (by omega) hS3 f3
      rw [Int.toNat_of_nonneg hr] at this
      exact this
    · have hp : 0 < c / (n : Int) := by
        have : 0 ≤ c / (n : Int) := Int.ediv_nonneg (by omega) (by omega)
        omega
      have hS3 : S3 a b (M.set b (.lst ((c / (n : Int) :: r).map .int))) := ⟨c / (n : Int) :: r, s, g2, g1, fun d hd => by
        rcases List.mem_cons.mp hd with rfl | hd
        · exact hp
        · exact hc d (by simp [hd]), by simpa using hcl, hs0, hs1, hab⟩
      simp only [decide_eq_false hz, wp, wx]
      rw [kFn_fr f2 (hS3.lo hbM) (by simp)]
      have := k (c % (n : Int)).toNat _ (by omega) hS3 f2
      rw [Int.toNat_of_nonneg hr] at this
      exact this
theorem gen3 (a b : Nat) : Gen (.ref a) [a, b] (S3 a b) m__law_next where
  next := fun M n h hn hn2 => by
    obtain ⟨r, M', e, q⟩ := next3 (K := fun o M' => ∃ r : Nat, o = .v (.int (r : Int)) ∧ r < n ∧ S3 a b M' ∧ Fr [a, b] M M') h hn hn2 (fun r M' h1 h2 h3 => ⟨r, rfl, h1, h2, h3⟩)
    obtain ⟨r', rfl, q1, q2, q3⟩ := q
    exact ⟨r', M', e, q1, q2, q3⟩
  keep := fun M M' ⟨cs, s, h1, h2, h3⟩ hk => ⟨cs, s, by rw [hk a (by simp)]; exact h1, by rw [hk b (by simp)]; exact h2, h3⟩
  lo := fun M h => h.lo (by obtain ⟨cs, s, h1, h2, h3⟩ := h; exact (List.getElem?_eq_some_iff.mp h2).1)
  ins := fun M ⟨cs, s, h1, h2, h3⟩ i hi => by
    simp at hi
    rcases hi with rfl | rfl
    · exact (List.getElem?_eq_some_iff.mp h1).1
    · exact (List.getElem?_eq_some_iff.mp h2).1
  sto := fun M ⟨cs, s, h1, h2, h3⟩ => by simp; exact (List.getElem?_eq_some_iff.mp h1).1
theorem begin3 (ns : List Int) (hl : ns.length ≤ 63) {K : PO2} (k : ∀ (cs : List Int) (s : Int), S3 1 0 [.lst (cs.map .int), .dct (stt 0 s)] → K (.o (.dct (stt 0 s))) [.lst (cs.map .int)]) : WO (m__law_begin [.fl (ns.map .int)] []) K := by
  have hl2 : (ns.map D.int).take 63 = ns.map D.int := List.take_of_length_le (by simpa using hl)
  unfold m__law_begin
  simp only [wp, wx, wf, Nat.reduceSub, sl_fl, cut_to (show (0 : Int) ≤ 63 by decide), show (63 : Int).toNat = 63 from rfl, hl2, src_ol]
  refine wl_inv (fun i ρ M => ∃ s y, M = [] ∧ 0 ≤ s ∧ s < 2305843009213693951 ∧ ρ = [some (.fl (ns.map .int)), some (.int s), y]) ⟨7, none, rfl, by omega, by omega, rfl⟩ (fun _ _ _ _ _ => chk_nil) (fun i x ρ M hx j => ?_) (fun ρ M j => ?_)
  · obtain ⟨s, y, rfl, h0, h1, rfl⟩ := j
    rw [List.getElem?_map] at hx
    obtain ⟨c, _, rfl⟩ := Option.map_eq_some_iff.mp hx
    have hm : mulOk s 6364136223846793005 := .inl ⟨by omega, by omega⟩
    have e1 : ∀ i : Int, modF (.v (.int i)) (.v (.int 2305843009213693951)) [] = some (.v (.int (i % 2305843009213693951)), []) := fun i => by rw [mod_int, if_pos (by omega)]
    simp only [wp, wx, w__law_begin_F1, mul_int, if_pos hm, add_int, e1]
    exact ⟨_, _, Int.emod_nonneg _ (by omega), Int.emod_lt_of_pos _ (by omega), rfl⟩
  · obtain ⟨s, y, rfl, h0, h1, rfl⟩ := j
    simp only [wp, wx, wq, sl_fl, cut_to (show (0 : Int) ≤ 63 by decide), show (63 : Int).toNat = 63 from rfl, hl2, src_ol]
    refine wc_flt D.int D.int (fun c => decide (1000000000000000000 ≤ c)) ns (fun c hc => ?_) ?_
    · simp only [wp, wx]
      refine ⟨wb_eq ?_, fun _ => ?_⟩
      · have ep : powF (.v (.int 10)) (.v (.int 18)) [] = some (.v (.int 1000000000000000000), []) := by simp
        simp only [wp, wx, w__law_begin_C1, ep, geF, cmp_int]
      · simp only [wp, wx, w__law_begin_E1]
        exact ⟨rfl, rfl⟩
    · have hcs : ∀ c ∈ ns.filter (fun c => decide (1000000000000000000 ≤ c)), (0 : Int) < c := fun c hc => by
        have := of_decide_eq_true (List.mem_filter.mp hc).2
        omega
      have hln : (ns.filter (fun c => decide (1000000000000000000 ≤ c))).length ≤ 1000 := by
        have := List.length_filter_le (fun c => decide (1000000000000000000 ≤ c)) ns
        omega
      generalize ns.filter (fun c => decide (1000000000000000000 ≤ c)) = cs at hcs hln ⊢
      have epk : pairsK [.str "great", .ref 0, .str "seed", .int s] = some (stt 0 s) := by
        have hs : ¬ Str.ofString "seed" = Str.ofString "great" := fun h => absurd h (by decide)
        simp [pairsK, key1, stt, D.eqb, hs]
      simp only [wp, wx, wq, wm, epk]
      refine ⟨by simp [stt], ?_⟩
      have es : shut [] (.o (.dct (stt 0 s))) [Ob.lst (cs.map D.int)] = (.o (.dct (stt 0 s)), [Ob.lst (cs.map D.int)]) := by
        unfold shut
        rw [if_pos (show okM [] _ from fun i b hi => by simp at hi)]
        simp [Ob.lo, loK, stt]
      rw [kFn_rt, es]
      exact k cs s ⟨cs, s, rfl, rfl, hcs, hln, h0, h1, by omega⟩
/-- an order of n rooms -/
structure Ord (n : Nat) (o : List Nat) : Prop where
  nd : o.Nodup
  mem : ∀ r, r ∈ o ↔ r < n
theorem Ord.perm {n : Nat} {o : List Nat} (h : Ord n o) : o.Perm (List.range n) := by
  rw [List.perm_iff_count]
  intro a
  have h1 := h.nd.count (a := a)
  have h2 := (List.nodup_range (n := n)).count (a := a)
  rw [h1, h2]
  simp [h.mem a]
theorem Ord.len {n : Nat} {o : List Nat} (h : Ord n o) : o.length = n := by
  have := h.perm.length_eq
  simpa using this
theorem ord_of {n : Nat} {o : List Nat} (h : o.Perm (List.range n)) : Ord n o := ⟨h.nodup_iff.mpr List.nodup_range, fun r => by rw [h.mem_iff]; simp⟩
theorem ord_range (n : Nat) : Ord n (List.range n) := ord_of (List.Perm.refl _)
theorem Ord.idx {n : Nat} {o : List Nat} (h : Ord n o) {r : Nat} (hr : r < n) : o.idxOf r < n := by
  have := List.idxOf_lt_length_of_mem ((h.mem r).mpr hr)
  rw [h.len] at this
  exact this
theorem Ord.at_idx {n : Nat} {o : List Nat} (h : Ord n o) {r : Nat} (hr : r < n) : o.getD (o.idxOf r) 0 = r := by
  have hm := (h.mem r).mpr hr
  have := List.idxOf_lt_length_of_mem hm
  rw [List.getD_eq_getElem?_getD, List.getElem?_eq_getElem this]
  simp
theorem Ord.getD_lt {n : Nat} {o : List Nat} (h : Ord n o) {i : Nat} (hi : i < n) : o.getD i 0 < n := by
  have hl : i < o.length := by rw [h.len]; exact hi
  rw [List.getD_eq_getElem?_getD, List.getElem?_eq_getElem hl]
  exact (h.mem _).mp (List.getElem_mem hl)
theorem Ord.idx_at {n : Nat} {o : List Nat} (h : Ord n o) {i : Nat} (hi : i < n) : o.idxOf (o.getD i 0) = i := by
  have hl : i < o.length := by rw [h.len]; exact hi
  rw [List.getD_eq_getElem?_getD, List.getElem?_eq_getElem hl]
  exact h.nd.idxOf_getElem i hl
theorem Ord.inj {n : Nat} {o : List Nat} (h : Ord n o) {i j : Nat} (hi : i < n) (hj : j < n) (e : o.getD i 0 = o.getD j 0) : i = j := by
  rw [← h.idx_at hi, ← h.idx_at hj, e]
/-- a list of n places, unlike, is an order -/
theorem ord_fn {n : Nat} {f g : Nat → Nat} (h1 : ∀ i, i < n → f i < n) (h2 : ∀ i, i < n → g i < n) (h3 : ∀ i, i < n → g (f i) = i) (h4 : ∀ i, i < n → f (g i) = i) : Ord n ((List.range n).map f) := by
  refine ⟨?_, fun r => ⟨fun hr => ?_, fun hr => ?_⟩⟩
  · rw [List.Nodup, List.pairwise_map]
    exact List.Pairwise.imp_of_mem (R := fun a b => a ≠ b) (fun {a b} ha hb hab e => hab (by
      have ha := List.mem_range.mp ha
      have hb := List.mem_range.mp hb
      rw [← h3 a ha, ← h3 b hb, e])) List.nodup_range
  · obtain ⟨i, hi, rfl⟩ := List.mem_map.mp hr
    exact h1 i (List.mem_range.mp hi)
  · exact List.mem_map.mpr ⟨g r, List.mem_range.mpr (h2 r hr), h4 r hr⟩
def backN (o : List Nat) : List Nat := (List.range o.length).map fun r => o.idxOf r
theorem Ord.back {n : Nat} {o : List Nat} (h : Ord n o) : Ord n (backN o) := by
  unfold backN
  rw [h.len]
  exact ord_fn (g := fun i => o.getD i 0) (fun i hi => h.idx hi) (fun i hi => h.getD_lt hi) (fun i hi => h.at_idx hi) (fun i hi => h.idx_at hi)
theorem getD_map_range {n : Nat} {f : Nat → Nat} {i : Nat} (hi : i < n) : ((List.range n).map f).getD i 0 = f i := by
  rw [List.getD_eq_getElem?_getD, List.getElem?_map, List.getElem?_range hi]
  rfl
theorem Ord.back_at {n : Nat} {o : List Nat} (h : Ord n o) {i : Nat} (hi : i < n) : (backN o).getD i 0 = o.idxOf i := by
  unfold backN
  rw [h.len]
  exact getD_map_range hi
theorem Ord.back_idx {n : Nat} {o : List Nat} (h : Ord n o) {i : Nat} (hi : i < n) : (backN o).idxOf i = o.getD i 0 := by
  have h1 : (backN o).getD (o.getD i 0) 0 = i := by rw [h.back_at (h.getD_lt hi), h.idx_at hi]
  have := h.back.idx_at (h.getD_lt hi)
  rw [h1] at this
  exact this
/-- two orders, one behind the other -/
def thenN (o p : List Nat) : List Nat := p.map fun r => o.getD r 0
theorem Ord.then {n : Nat} {o p : List Nat} (h : Ord n o) (k : Ord n p) : Ord n (thenN o p) := by
  have e : thenN o p = (List.range n).map fun i => o.getD (p.getD i 0) 0 := by
    unfold thenN
    rw [← k.len]
    exact (map_range_get p 0 fun r => o.getD r 0).symm
  rw [e]
  exact ord_fn (g := fun i => p.idxOf (o.idxOf i)) (fun i hi => h.getD_lt (k.getD_lt hi)) (fun i hi => k.idx (h.idx hi)) (fun i hi => by rw [h.idx_at (k.getD_lt hi), k.idx_at hi]) (fun i hi => by rw [k.at_idx (h.idx hi), h.at_idx hi])
theorem Ord.then_at {n : Nat} {o p : List Nat} (k : Ord n p) {i : Nat} (hi : i < n) : (thenN o p).getD i 0 = o.getD (p.getD i 0) 0 := by
  have hl : i < p.length := by rw [k.len]; exact hi
  unfold thenN
  rw [List.getD_eq_getElem?_getD, List.getElem?_map, List.getElem?_eq_getElem hl, List.getD_eq_getElem?_getD (l := p), List.getElem?_eq_getElem hl]
  rfl
theorem Ord.then_idx {n : Nat} {o p : List Nat} (h : Ord n o) (k : Ord n p) {g : Nat} (hg : g < n) : (thenN o p).idxOf g = p.idxOf (o.idxOf g) := by
  have h1 : (thenN o p).getD (p.idxOf (o.idxOf g)) 0 = g := by rw [k.then_at (k.idx (h.idx hg)), k.at_idx (h.idx hg), h.at_idx hg]
  have := (h.then k).idx_at (k.idx (h.idx hg))
  rw [h1] at this
  exact this
/-! the machine whose rooms are called otherwise -/
def ren (m : List (List Nat)) (o : List Nat) : List (List Nat) := o.map fun r => (m.getD r []).map fun g => o.idxOf g
theorem mach_rows {m : List (List Nat)} {l : Nat} (h : Mach m l) {r : Nat} (hr : r < m.length) : (m.getD r []).length = l ∧ ∀ g ∈ m.getD r [], g < m.length := by
  have e : m.getD r [] = m[r] := by rw [List.getD_eq_getElem?_getD, List.getElem?_eq_getElem hr]; rfl
  rw [e]
  exact ⟨h.row hr, h.lt _ (List.getElem_mem hr)⟩
theorem ren_len {m : List (List Nat)} {o : List Nat} (h : Ord m.length o) : (ren m o).length = m.length := by simp [ren, h.len]
theorem ren_mach {m : List (List Nat)} {l : Nat} {o : List Nat} (hm : Mach m l) (h : Ord m.length o) : Mach (ren m o) l := by
  refine ⟨fun row hr => ?_, fun row hr g hg => ?_⟩
  · obtain ⟨r, hr', rfl⟩ := List.mem_map.mp hr
    rw [List.length_map]
    exact (mach_rows hm ((h.mem r).mp hr')).1
  · obtain ⟨r, hr', rfl⟩ := List.mem_map.mp hr
    obtain ⟨g', hg', rfl⟩ := List.mem_map.mp hg
    rw [ren_len h]
    exact h.idx ((mach_rows hm ((h.mem r).mp hr')).2 g' hg')
theorem ren_row {m : List (List Nat)} {o : List Nat} (h : Ord m.length o) {i : Nat} (hi : i < m.length) : (ren m o).getD i [] = (m.getD (o.getD i 0) []).map fun g => o.idxOf g := by
  have hl : i < o.length := by rw [h.len]; exact hi
  unfold ren
  rw [List.getD_eq_getElem?_getD, List.getElem?_map, List.getElem?_eq_getElem hl, List.getD_eq_getElem?_getD (l := o), List.getElem?_eq_getElem hl]
  rfl
theorem rows_ext {a b : List (List Nat)} (hl : a.length = b.length) (h : ∀ i, i < a.length → a.getD i [] = b.getD i []) : a = b := by
  apply List.ext_getElem hl
  intro i h1 h2
  have := h i h1
  rw [List.getD_eq_getElem?_getD, List.getD_eq_getElem?_getD, List.getElem?_eq_getElem h1, List.getElem?_eq_getElem h2] at this
  exact this
theorem ren_back {m : List (List Nat)} {l : Nat} {o : List Nat} (hm : Mach m l) (h : Ord m.length o) : ren (ren m o) (backN o) = m := by
  have hb : Ord (ren m o).length (backN o) := by rw [ren_len h]; exact h.back
  refine rows_ext (by rw [ren_len hb, ren_len h]) fun i hi => ?_
  rw [ren_len hb, ren_len h] at hi
  rw [ren_row hb (by rw [ren_len h]; exact hi), h.back_at hi, ren_row h (h.idx hi), h.at_idx hi, List.map_map]
  conv => rhs; rw [← List.map_id (m.getD i [])]
  apply List.map_congr_left
  intro g hg
  have hg' := (mach_rows hm hi).2 g hg
  simp only [Function.comp, id]
  rw [h.back_idx (h.idx hg'), h.at_idx hg']
theorem ren_then {m : List (List Nat)} {l : Nat} {o p : List Nat} (hm : Mach m l) (h : Ord m.length o) (k : Ord m.length p) : ren (ren m o) p = ren m (thenN o p) := by
  have hb : Ord (ren m o).length p := by rw [ren_len h]; exact k
  have ht := h.then k
  refine rows_ext (by rw [ren_len hb, ren_len h, ren_len ht]) fun i hi => ?_
  rw [ren_len hb, ren_len h] at hi
  rw [ren_row hb (by rw [ren_len h]; exact hi), ren_row h (k.getD_lt hi), ren_row ht hi, k.then_at hi, List.map_map]
  apply List.map_congr_left
  intro g hg
  have hg' := (mach_rows hm (h.getD_lt (k.getD_lt hi))).2 g hg
  simp only [Function.comp]
  rw [h.then_idx k hg']
theorem ren_id {m : List (List Nat)} {l : Nat} (hm : Mach m l) : ren m (List.range m.length) = m := by
  have h := ord_range m.length
  refine rows_ext (ren_len h) fun i hi => ?_
  rw [ren_len h] at hi
  have e : ∀ {j : Nat}, j < m.length → (List.range m.length).getD j 0 = j := fun {j} hj => by
    rw [List.getD_eq_getElem?_getD, List.getElem?_range hj]; rfl
  rw [ren_row h hi, e hi]
  conv => rhs; rw [← List.map_id (m.getD i [])]
  apply List.map_congr_left
  intro g hg
  have hg' := (mach_rows hm hi).2 g hg
  have := h.idx_at hg'
  rw [e hg'] at this
  exact this
/-! ### lists of numbers -/
theorem enum_nats : ∀ (w : List Nat) (i : Nat), enumD i (nats w) = (w.zipIdx i).map fun p => D.par [.int ((p.2 : Nat) : Int), .int ((p.1 : Nat) : Int)]
  | [], _ => by simp [nats, enumD]
  | a :: w, i => by
    have := enum_nats w (i + 1)
    simp only [nats] at this
    simp [nats, enumD, this]
theorem enum_ref {n : Nat} {w : List Nat} {M : Mem} (h : M[n]? = some (.lst (nats w))) : enumOf (.v (.ref n)) M = some ⟨(w.zipIdx).map fun p => D.par [.int ((p.2 : Nat) : Int), .int ((p.1 : Nat) : Int)], [(n, .lst (nats w))]⟩ := by
  simp only [enumOf, lsrc, h, Option.bind_some]
  rw [enum_nats]
theorem ix_first {n : Nat} {w : List Nat} {M : Mem} (h : M[n]? = some (.lst (nats w))) (hw : 0 < w.length) : ixF (.v (.ref n)) (.v (.int 0)) M = some (.v (.int ((w[0] : Nat) : Int)), M) := by
  simp only [ixF, seqOf, h, Option.bind_some]
  rw [show (0 : Int) = ((0 : Nat) : Int) from rfl, atI_nats w 0 hw]; rfl
theorem ix_last {n : Nat} {w : List Nat} {M : Mem} (h : M[n]? = some (.lst (nats w))) (hw : 0 < w.length) : ixF (.v (.ref n)) (.v (.int (-1))) M = some (.v (.int ((w[w.length - 1] : Nat) : Int)), M) := by
  have e : ixN (nats w).length (-1) = some (w.length - 1) := by unfold ixN; simp; omega
  simp only [ixF, seqOf, h, Option.bind_some, atI, e]
  simp [nats, List.getElem?_map, List.getElem?_eq_getElem (show w.length - 1 < w.length by omega)]
theorem neg_one (M : Mem) : negF (.v (.int 1)) M = some (.v (.int (-1)), M) := rfl
theorem ixn_at {n : Nat} {w : List Nat} {M : Mem} (h : M[n]? = some (.lst (nats w))) {i : Nat} (hi : i < w.length) : ixF (.v (.ref n)) (.v (.int (i : Int))) M = some (.v (.int ((w[i] : Nat) : Int)), M) := by
  simp only [ixF, seqOf, h, Option.bind_some]
  rw [atI_nats w i hi]; rfl
theorem sto_at {M e : Mem} {n : Nat} (hn : n = M.length) {w : List Nat} {i x : Nat} (hi : i < w.length) : stoF (.v (.ref n)) (.v (.int (i : Int))) (.int (x : Int)) (M ++ .lst (nats w) :: e) = some (M ++ .lst (nats (w.set i x)) :: e) := by
  subst hn
  have hg : (M ++ .lst (nats w) :: e)[M.length]? = some (.lst (nats w)) := by rw [gm0]; rfl
  simp only [stoF, hg]
  have : ixN (nats w).length (i : Int) = some i := by unfold ixN; simp; omega
  rw [this, Option.map_some, sm0]
  simp [nats, List.map_set]
theorem erase_map {α β : Type} (f : α → β) : ∀ (l : List α) (i : Nat), (l.map f).eraseIdx i = (l.eraseIdx i).map f
  | [], _ => rfl
  | _ :: _, 0 => rfl
  | a :: l, i + 1 => by simp [List.eraseIdx, erase_map f l i]
theorem pop_at {M : Mem} {q : Nat} {lf : List Nat} (h : M[q]? = some (.lst (nats lf))) {j : Nat} (hj : j < lf.length) (hb : lf.length ≤ 1000) : popF (.v (.ref q)) (.v (.int (j : Int))) M = some (.v (.int ((lf[j] : Nat) : Int)), M.set q (.lst (nats (lf.eraseIdx j)))) := by
  have h63 : i63 (j : Int) := i63_of (by omega) (by omega)
  have es : seqIndex? (j : Int) (nats lf).length = some j := by unfold seqIndex?; simp; omega
  simp only [popF, h, if_pos h63, es, Option.bind_some]
  have : (nats lf)[j]? = some (.int ((lf[j] : Nat) : Int)) := by simp [nats, hj]
  rw [this]
  simp [nats, erase_map]
theorem wc_mapL3 {α : Type} (emb h : α → D) (ys : List α) {t : Tg} {f : E} {lv : List (Nat × Ob)} {ρ : Env} {M : Mem} {Q : List D → Mem → Prop} (hc : chk lv M) (step : ∀ y ∈ ys, WEnv (t.put (emb y) ρ) fun ρ' => WE f ρ' M (kIs (h y) M)) (done : Q (ys.map h) M) : WC t bYes f lv ρ (ys.map emb) M Q := by
  refine wc_inv (fun i acc M' => acc = (ys.map h).take i ∧ M' = M) ⟨by simp, rfl⟩ (fun _ _ _ _ j => by rw [j.2]; exact hc) (fun i x acc M' hx j => ?_) (fun acc M' j => ?_)
  · obtain ⟨rfl, rfl⟩ := j
    rw [List.getElem?_map] at hx
    obtain ⟨y, e1, rfl⟩ := Option.map_eq_some_iff.mp hx
    obtain ⟨hi, rfl⟩ := List.getElem?_eq_some_iff.mp e1
    obtain ⟨ρ', e2, r, M', e3, rfl, rfl⟩ := step ys[i] (List.getElem_mem hi)
    refine ⟨ρ', e2, true, M', rfl, _, _, e3, ?_, rfl⟩
    rw [List.take_add_one]
    simp [hi]
  · obtain ⟨rfl, rfl⟩ := j
    rw [List.length_map, List.take_of_length_le (by simp)]
    exact done
theorem rep_flat {α : Type} (x : α) : ∀ n : Nat, (List.replicate n [x]).flatten = List.replicate n x
  | 0 => rfl
  | n + 1 => by simp [List.replicate_succ, rep_flat x n]
theorem eqb_int (i j : Int) : (D.int i).eqb (.int j) = decide (i = j) := by simp [D.eqb]
theorem any_nats (w : List Nat) (x : Nat) : ((nats w).any fun d => d.eqb (.int (x : Int))) = decide (x ∈ w) := by
  induction w with
  | nil => simp [nats]
  | cons a w ih =>
    simp only [nats, List.map_cons, List.any_cons, eqb_int] at ih ⊢
    rw [ih]
    by_cases h : a = x
    · subst h; simp
    · have : ¬ (a : Int) = (x : Int) := by omega
      have h' : ¬ x = a := fun z => h z.symm
      simp [this, h']
theorem in_list {M : Mem} {q : Nat} {w : List Nat} (h : M[q]? = some (.lst (nats w))) (x : Nat) (neg : Bool) : inF neg (.v (.int (x : Int))) (.v (.ref q)) M = some (.v (.bl (if neg then !decide (x ∈ w) else decide (x ∈ w))), M) := by
  have hf : flatD (.int (x : Int)) = true ∧ (nats w).all flatD = true := ⟨rfl, by simp [nats, flatD]⟩
  simp only [inF, form, seqOf, h, Option.bind_some, if_pos hf, any_nats]
theorem findIdx_nl (w : List Nat) (x : Nat) (h : x ∈ w) : ((nats w).findIdx? fun d => d.eqb (.int (x : Int))) = some (w.idxOf x) := by
  induction w with
  | nil => simp at h
  | cons a w ih =>
    simp only [nats, List.map_cons, List.findIdx?_cons, eqb_int]
    by_cases hax : a = x
    · subst hax; simp
    · have : ¬ (a : Int) = (x : Int) := by omega
      have hw : x ∈ w := by
        rcases List.mem_cons.mp h with h | h
        · exact absurd h.symm hax
        · exact h
      simp only [this, decide_false]
      have := ih hw
      simp only [nats] at this
      have hb : (a == x) = false := by simpa using hax
      simp [this, List.idxOf_cons, hb]
theorem okL_nats (n : Nat) (w : List Nat) : okL n (nats w) = true := by
  induction w with
  | nil => simp [nats, okL]
  | cons a w ih => simp only [nats, List.map_cons] at ih ⊢; rw [okL, ih]; simp [okD]
theorem idx_list {M : Mem} {q : Nat} {w : List Nat} (h : M[q]? = some (.lst (nats w))) {x : Nat} (hx : x ∈ w) : idxLF (.v (.ref q)) (.v (.int (x : Int))) M = some (.v (.int ((w.idxOf x : Nat) : Int)), M) := by
  have hc : okL 63 (nats w) = true ∧ okD 64 (.int (x : Int)) = true := ⟨okL_nats _ _, by simp [okD]⟩
  simp only [idxLF, lstOf, h, Option.bind_some, if_pos hc, findIdx_nl w x hx, Option.map_some]
theorem sl_ref {M : Mem} {q : Nat} {xs : List D} (h : M[q]? = some (.lst xs)) (lo hi : Option Int) : slF (.v (.ref q)) lo hi M = some (.o (.lst (cutD xs lo hi)), M) := by simp [slF, seqOf, h]
theorem add_ol {a b : List D} (h : a.length + b.length ≤ 90000) (M : Mem) : addF (.o (.lst a)) (.o (.lst b)) M = some (.o (.lst (a ++ b)), M) := by
  have hf : fits (a.length + b.length) := fits_of (by omega)
  simp only [addF, lstOf, Option.bind_some, if_pos hf]
theorem getD_get {w : List Nat} {i : Nat} (h : i < w.length) : w.getD i 0 = w[i] := by simp [List.getD, h]
theorem stp_rows {m : List (List Nat)} {r a : Nat} (hr : r < m.length) (ha : a < m[r].length) : stp m r a = m[r][a] := by
  unfold stp; simp [List.getD, List.getElem?_eq_getElem hr, List.getElem?_eq_getElem ha]
theorem ix_tup {ds : List D} {i : Nat} {d : D} (h : ds[i]? = some d) (M : Mem) : ixF (.v (.tup ds)) (.v (.int (i : Int))) M = some (.v d, M) := by
  obtain ⟨hi, e⟩ := List.getElem?_eq_some_iff.mp h
  simp only [ixF, seqOf, Option.bind_some]
  rw [atI_get _ _ hi, e]; rfl
theorem sto_ref {M : Mem} {q : Nat} {w : List Nat} {i x : Nat} (h : M[q]? = some (.lst (nats w))) (hi : i < w.length) : stoF (.v (.ref q)) (.v (.int (i : Int))) (.int (x : Int)) M = some (M.set q (.lst (nats (w.set i x)))) := by
  have : ixN (nats w).length (i : Int) = some i := by unfold ixN; simp; omega
  simp only [stoF, h, this, Option.map_some]
  simp [nats, List.map_set]
theorem isi_bb (b : Bool) (M : Mem) : isiF .bool (.v (.bl b)) M = some (.v (.bl true), M) := by simp [isiF, tyOf]; decide
theorem ne_bb (a b : Bool) (M : Mem) : neF (.v (.bl a)) (.v (.bl b)) M = some (.v (.bl (!decide (a = b))), M) := by cases a <;> cases b <;> simp [neF, form, okD, D.eqb]
noncomputable def _law_column_E1 (ρ : Env) (m : Mem) : Option (Out × Mem) := (eMt1 "list" popF (eVar 7) (eBin modF (eVar 9) (eUn lenF (eVar 7)))) ρ m
theorem w__law_column_E1 {ρ : Env} {M : Mem} {Q : PO2} : WE _law_column_E1 ρ M Q ↔ WE (eMt1 "list" popF (eVar 7) (eBin modF (eVar 9) (eUn lenF (eVar 7)))) ρ M Q := Iff.rfl
noncomputable def _law_column_E2 (ρ : Env) (m : Mem) : Option (Out × Mem) := (eIf (bOf (eBin leF (eVar 8) (eVar 5))) (eBin modF (eVar 9) (eBin addF (eVar 5) (eC (.int 1)))) (eBin addF (eBin addF (eVar 5) (eC (.int 1))) (eBin modF (eVar 9) (eBin subF (eBin subF (eVar 1) (eVar 5)) (eC (.int 1)))))) ρ m
theorem w__law_column_E2 {ρ : Env} {M : Mem} {Q : PO2} : WE _law_column_E2 ρ M Q ↔ WE (eIf (bOf (eBin leF (eVar 8) (eVar 5))) (eBin modF (eVar 9) (eBin addF (eVar 5) (eC (.int 1)))) (eBin addF (eBin addF (eVar 5) (eC (.int 1))) (eBin modF (eVar 9) (eBin subF (eBin subF (eVar 1) (eVar 5)) (eC (.int 1)))))) ρ M Q := Iff.rfl
noncomputable def _law_column_E3 (ρ : Env) (m : Mem) : Option (Out × Mem) := (eCall m__law_next (aCons (eVar 0) (aCons (eVar 1) aNil))) ρ m
theorem w__law_column_E3 {ρ : Env} {M : Mem} {Q : PO2} : WE _law_column_E3 ρ M Q ↔ WE (eCall m__law_next (aCons (eVar 0) (aCons (eVar 1) aNil))) ρ M Q := Iff.rfl
noncomputable def m__law_column : Fn := fnD 3 10
    (sSeq (sSet 3 (eComp (iRg1 (eVar 1)) [8] (.nm 8) bYes _law_column_E3))
    (sSeq (sPut (eTup (aCons (eBin ixF (eVar 3) (eC (.int 0))) (aCons (eBin ixF (eVar 3) (eUn negF (eC (.int 1)))) aNil))) (gT (.tp [5, 6])))
    (sSeq (sIf (bOf (eBin eqF (eVar 2) (eC (.int 0)))) (sRet (eVar 3)) sNil)
    (sSeq (sIf (bOf (eBin eqF (eVar 2) (eC (.int 5)))) (sRet (eBin mulF (eLst (aCons (eVar 5) aNil)) (eVar 1))) sNil)
    (sSeq (sIf (bOf (eBin eqF (eVar 2) (eC (.int 6)))) (sRet (eComp (iEnumE (eVar 3)) [8, 9] (.tp [8, 9]) bYes _law_column_E2)) sNil)
    (sSeq (sSet 4 (eRg1 mkL (eVar 1)))
    (sSeq (sIf (bOf (eBin eqF (eVar 2) (eC (.int 3)))) (sRet (eBin addF (eSl (eVar 4) (oSome (eC (.int 1))) oNone) (eSl (eVar 4) oNone (oSome (eC (.int 1)))))) sNil)
    (sSeq (sIf (bOf (eBin ltF (eVar 2) (eC (.int 3)))) (sSeq (sSet 7 (eRg1 mkL (eVar 1)))
    (sSet 4 (eComp (iE (eVar 3)) [9] (.nm 9) bYes _law_column_E1))) sNil)
    (sSeq (sIf (bOf (eBin (inF false) (eVar 2) (eTup (aCons (eC (.int 2)) (aCons (eC (.int 4)) aNil))))) (sPut (eBin ixF (eVar 4) (eVar 6)) (gIx (eVar 4) (eVar 5))) sNil)
    (sRet (eVar 4)))))))))))
noncomputable def _law_machine_E1 (ρ : Env) (m : Mem) : Option (Out × Mem) := (eBin ixF (eVar 10) (eVar 9)) ρ m
theorem w__law_machine_E1 {ρ : Env} {M : Mem} {Q : PO2} : WE _law_machine_E1 ρ M Q ↔ WE (eBin ixF (eVar 10) (eVar 9)) ρ M Q := Iff.rfl
noncomputable def _law_machine_E2 (ρ : Env) (m : Mem) : Option (Out × Mem) := (eUn tupF (eComp (iE (eVar 6)) [10] (.nm 10) bYes _law_machine_E1)) ρ m
theorem w__law_machine_E2 {ρ : Env} {M : Mem} {Q : PO2} : WE _law_machine_E2 ρ M Q ↔ WE (eUn tupF (eComp (iE (eVar 6)) [10] (.nm 10) bYes _law_machine_E1)) ρ M Q := Iff.rfl
noncomputable def _law_machine_F1 (ρ : Env) (m : Mem) : Option R := (sSeq (sSet 8 (eBin ixF (eLst (aCons (eC (.int 3)) (aCons (eC (.int 4)) aNil))) (eBin modF (eVar 7) (eC (.int 2)))))
    (sSeq (sIf (bOf (eBin ltF (eVar 5) (eC (.int 7)))) (sSet 8 (eVar 5)) sNil)
    (sSeq (sIf (bOf (eBin eqF (eVar 5) (eC (.int 9)))) (sSet 8 (eCall m__law_next (aCons (eVar 0) (aCons (eC (.int 7)) aNil)))) sNil)
    (sDo (eMt1 "list" appF (eVar 6) (eCall m__law_column (aCons (eVar 0) (aCons (eVar 3) (aCons (eVar 8) aNil))))))))) ρ m
theorem w__law_machine_F1 {ρ : Env} {M : Mem} {Q : R → Prop} : WS _law_machine_F1 ρ M Q ↔ WS (sSeq (sSet 8 (eBin ixF (eLst (aCons (eC (.int 3)) (aCons (eC (.int 4)) aNil))) (eBin modF (eVar 7) (eC (.int 2)))))
    (sSeq (sIf (bOf (eBin ltF (eVar 5) (eC (.int 7)))) (sSet 8 (eVar 5)) sNil)
    (sSeq (sIf (bOf (eBin eqF (eVar 5) (eC (.int 9)))) (sSet 8 (eCall m__law_next (aCons (eVar 0) (aCons (eC (.int 7)) aNil)))) sNil)
    (sDo (eMt1 "list" appF (eVar 6) (eCall m__law_column (aCons (eVar 0) (aCons (eVar 3) (aCons (eVar 8) aNil))))))))) ρ M Q := Iff.rfl
noncomputable def m__law_machine : Fn := fnD 3 11
    (sSeq (sSet 3 (eBin addF (eC (.int 1)) (eCall m__law_next (aCons (eVar 0) (aCons (eBin ixF (eLst (aCons (eC (.int 3)) (aCons (eC (.int 7)) (aCons (eVar 1) aNil)))) (eCall m__law_next (aCons (eVar 0) (aCons (eC (.int 3)) aNil)))) aNil)))))
    (sSeq (sSet 4 (eBin addF (eC (.int 1)) (eCall m__law_next (aCons (eVar 0) (aCons (eVar 2) aNil)))))
    (sSeq (sSet 5 (eCall m__law_next (aCons (eVar 0) (aCons (eC (.int 10)) aNil))))
    (sSeq (sSet 6 (eLst aNil))
    (sSeq (sFor (iRg1 (eVar 4)) (gT (.nm 7)) _law_machine_F1)
    (sSeq (sIf (bOf (eBin eqF (eVar 5) (eC (.int 8)))) (sSet 6 (eBin mulF (eSl (eVar 6) oNone (oSome (eC (.int 1)))) (eVar 4))) sNil)
    (sRet (eUn tupF (eComp (iRg1 (eVar 3)) [9] (.nm 9) bYes _law_machine_E2)))))))))
/-- what is taken out of what is left -/
theorem pops_w {M : Mem} {q : Nat} (hq : q = M.length) {n : Nat} {c : List Nat} (hcl : c.length = n) (hn2 : n ≤ 1000) {d : Ob} {a0 a1 a2 a3 a4 a5 a6 a8 a9 : Option D} {Q : List D → Mem → Prop}
    (k : ∀ p : List Nat, p.length = n → (∀ r ∈ p, r < n) → Q (nats p) (M ++ [.lst (nats c), d, .lst (nats [])])) :
    WC (.nm 9) bYes _law_column_E1 [(q, .lst (nats c))] [a0, a1, a2, a3, a4, a5, a6, some (.ref (q + 2)), a8, a9] (nats c) (M ++ [.lst (nats c), d, .lst (nats (List.range n))]) Q := by
  have hg : ∀ u v w : Ob, (M ++ [u, v, w])[q]? = some u := fun u v w => by rw [hq, gm0]; rfl
  have hg2 : ∀ u v w : Ob, (M ++ [u, v, w])[q + 2]? = some w := fun u v w => by rw [hq, gmk]; rfl
  have hs2 : ∀ u v w x : Ob, (M ++ [u, v, w]).set (q + 2) x = M ++ [u, v, x] := fun u v w x => by rw [hq, smk]; rfl
  refine wc_inv (fun i acc M' => ∃ p lf : List Nat, acc = nats p ∧ p.length = i ∧ lf.length = n - i ∧ (∀ r ∈ p, r < n) ∧ (∀ r ∈ lf, r < n) ∧ M' = M ++ [.lst (nats c), d, .lst (nats lf)]) ⟨[], List.range n, rfl, rfl, by simp, by simp, fun r hr => List.mem_range.mp hr, rfl⟩ (fun i acc M' _ j => ?_) (fun i x acc M' hx j => ?_) (fun acc M' j => ?_)
  · obtain ⟨p, lf, rfl, _, _, _, _, rfl⟩ := j
    exact chk_one (hg _ _ _)
  · obtain ⟨p, lf, rfl, hpl, hll, hp, hlf, rfl⟩ := j
    simp only [nats, List.getElem?_map] at hx
    obtain ⟨a, e1, rfl⟩ := Option.map_eq_some_iff.mp hx
    have hi : i < c.length := (List.getElem?_eq_some_iff.mp e1).1
    have hl0 : 0 < lf.length := by omega
    have hm : a % lf.length < lf.length := Nat.mod_lt _ hl0
    have em : modF (.v (.int (a : Int))) (.v (.int (lf.length : Int))) (M ++ [.lst (nats c), d, .lst (nats lf)]) = some (.v (.int ((a % lf.length : Nat) : Int)), M ++ [.lst (nats c), d, .lst (nats lf)]) := by
      rw [mod_int, if_pos (by omega)]; rfl
    have epop := pop_at (hg2 (.lst (nats c)) d (.lst (nats lf))) hm (by omega)
    rw [hs2] at epop
    have el : lenF (.v (.ref (q + 2))) (M ++ [.lst (nats c), d, .lst (nats lf)]) = some (.v (.int (lf.length : Int)), M ++ [.lst (nats c), d, .lst (nats lf)]) := by rw [len_ref (hg2 _ _ _)]; simp [nats]
    simp only [wc, wp, wx, w__law_column_E1, isT_ref (hg2 _ _ _), el, em, epop]
    refine ⟨p ++ [lf[a % lf.length]], lf.eraseIdx (a % lf.length), by simp [nats], by simp [hpl], by rw [List.length_eraseIdx_of_lt hm]; omega, fun r hr => ?_, fun r hr => hlf r (List.mem_of_mem_eraseIdx hr), rfl⟩
    rcases List.mem_append.mp hr with hr | hr
    · exact hp r hr
    · simp at hr; subst hr; exact hlf _ (List.getElem_mem _)
  · obtain ⟨p, lf, rfl, hpl, hll, hp, hlf, rfl⟩ := j
    have : lf = [] := List.eq_nil_of_length_eq_zero (by rw [hll, hcl.symm]; simp [nats])
    subst this
    exact k p (by rw [hpl]; simp [nats, hcl]) hp
theorem col3_w {st : D} {ab : List Nat} {S : Mem → Prop} (g : Gen st ab S m__law_next) {M : Mem} (h : S M) {n way : Nat} (hn : 0 < n) (hn2 : n ≤ 1000) {K : PO2} (k : ∀ (c : List Nat) (M' : Mem), c.length = n → (∀ r ∈ c, r < n) → S M' → Fr ab M M' → K (.o (.lst (nats c))) M') : WO (m__law_column [st, .int (n : Int), .int (way : Int)] M) K := by
  have finO : ∀ (c : List Nat) (M1 e : Mem), c.length = n → (∀ r ∈ c, r < n) → S M1 → Fr ab M M1 → kFn M K (.rt (.o (.lst (nats c))) (M1 ++ e)) := fun c M1 e hl hr s1 f1 => by
    rw [kFn_rt, g.shutO (b := .lst (nats c)) f1 s1 (loL_nats _ _)]
    exact k c M1 hl hr s1 f1
  have finR : ∀ (c : List Nat) (M1 e : Mem) (q : Nat), c.length = n → (∀ r ∈ c, r < n) → S M1 → Fr ab M M1 → M.length ≤ q → (M1 ++ e)[q]? = some (.lst (nats c)) → kFn M K (.rt (.v (.ref q)) (M1 ++ e)) := fun c M1 e q hl hr s1 f1 hq he => by
    rw [kFn_rt, g.shutL (b := .lst (nats c)) f1 s1 hq he (loL_nats _ _)]
    exact k c M1 hl hr s1 f1
  unfold m__law_column
  simp only [wp, wx, wf, Nat.reduceSub]
  refine ⟨rg_nat (by omega), ?_⟩
  refine g.wds hn (by omega) h (fun y _ => ?_) (fun c M1 hcl hc s1 f1 => ?_)
  · simp only [wp, wx, w__law_column_E3]; exact fun M K h => h
  rw [Int.toNat_natCast, upto_len] at hcl
  have hc0 : 0 < c.length := by omega
  have hM : M.length = M1.length := f1.1.symm
  have hg : (M1 ++ [Ob.lst (nats c)])[M1.length]? = some (.lst (nats c)) := get_end rfl
  simp only [wp, wx, ix_first hg hc0, neg_one, ix_last hg hc0, eq_int]
  have ho : c[0] < n := hc _ (List.getElem_mem _)
  have hot : c[c.length - 1] < n := hc _ (List.getElem_mem _)
  generalize hone : c[0] = one at ho ⊢
  generalize hoth : c[c.length - 1] = oth at hot ⊢
  by_cases h0 : (way : Int) = 0
  · simp only [h0, decide_true, wp, wx]
    exact finR c M1 _ _ hcl hc s1 f1 (by omega) hg
  simp only [h0, decide_false, wp, wx, eq_int]
  by_cases h5 : (way : Int) = 5
  · have em : mulF (.o (.lst [.int (one : Int)])) (.v (.int (n : Int))) (M1 ++ [Ob.lst (nats c)]) = some (.o (.lst (nats (List.replicate n one))), M1 ++ [Ob.lst (nats c)]) := by
      have hcond : i63 (n : Int) ∧ fits n := ⟨i63_of (by omega) (by omega), fits_of (by omega)⟩
      simp [mulF, lstOf, hcond, rep_flat, nats]
    simp only [h5, decide_true, wp, wx, em]
    exact finO _ M1 _ (by simp) (fun r hr => by rw [List.eq_of_mem_replicate hr]; exact ho) s1 f1
  simp only [h5, decide_false, wp, wx, eq_int]
  by_cases h6 : (way : Int) = 6
  · simp only [h6, decide_true, wp, wx, enum_ref hg]
    refine wc_mapL3 (fun p : Nat × Nat => D.par [.int ((p.2 : Nat) : Int), .int ((p.1 : Nat) : Int)]) (fun p : Nat × Nat => D.int (((if p.2 ≤ one then p.1 % (one + 1) else one + 1 + p.1 % (n - one - 1)) : Nat) : Int)) c.zipIdx (chk_one hg) (fun p hp => ?_) ?_
    · have hp2 : p.2 < n := by
        have := List.mem_zipIdx hp
        omega
      simp only [wp, wx, w__law_column_E2, leF, cmp_int, add_int, sub_int, show Tg.put (.tp [8, 9]) (D.par [.int ((p.2 : Nat) : Int), .int ((p.1 : Nat) : Int)]) = fun ρ => some ((ρ.set 8 (some (.int ((p.2 : Nat) : Int)))).set 9 (some (.int ((p.1 : Nat) : Int)))) from rfl]
      have em : ∀ (a b : Nat) (M : Mem), 0 < b → modF (.v (.int (a : Int))) (.v (.int (b : Int))) M = some (.v (.int ((a % b : Nat) : Int)), M) := fun a b M hb => by rw [mod_int, if_pos (by omega)]; rfl
      have e1 : (one : Int) + 1 = ((one + 1 : Nat) : Int) := by omega
      by_cases hle : p.2 ≤ one
      · have hle' : (p.2 : Int) ≤ (one : Int) := by omega
        simp only [hle', decide_true, wp, wx, add_int, e1, em p.1 (one + 1) _ (by omega)]
        exact ⟨by rw [if_pos hle], rfl⟩
      · have hle' : ¬ (p.2 : Int) ≤ (one : Int) := by omega
        have e2 : (n : Int) - (one : Int) - 1 = ((n - one - 1 : Nat) : Int) := by omega
        simp only [hle', decide_false, wp, wx, add_int, sub_int, e1, e2, em p.1 (n - one - 1) _ (by omega)]
        refine ⟨?_, rfl⟩
        rw [if_neg hle]; congr 1
    · simp only [wp, wx]
      have e : (c.zipIdx.map fun p : Nat × Nat => D.int (((if p.2 ≤ one then p.1 % (one + 1) else one + 1 + p.1 % (n - one - 1)) : Nat) : Int)) = nats (c.zipIdx.map fun p : Nat × Nat => if p.2 ≤ one then p.1 % (one + 1) else one + 1 + p.1 % (n - one - 1)) := by simp [nats]
      rw [e]
      refine finO _ M1 _ (by simp [hcl]) (fun r hr => ?_) s1 f1
      obtain ⟨p, hp, rfl⟩ := List.mem_map.mp hr
      have hp2 : p.2 < n := by
        have := List.mem_zipIdx hp
        omega
      split
      · have := Nat.mod_lt p.1 (show 0 < one + 1 by omega); omega
      · have := Nat.mod_lt p.1 (show 0 < n - one - 1 by omega); omega
  simp only [h6, decide_false, wp, wx, eq_int]
  refine ⟨rg_nat (by omega), ?_⟩
  simp only [Int.toNat_natCast, mkL_rg, wp, wx, eq_int]
  have g1 : ∀ u v : Ob, (M1 ++ [u, v])[M1.length]? = some u := fun u v => by rw [gm0]; rfl
  have g2 : ∀ u v : Ob, (M1 ++ [u, v])[M1.length + 1]? = some v := fun u v => by rw [gmk]; rfl
  rw [show (M1 ++ [Ob.lst (nats c)]).length = M1.length + 1 by simp, List.append_assoc]
  simp only [List.cons_append, List.nil_append]
  by_cases h3 : (way : Int) = 3
  · have e1 : slF (.v (.ref (M1.length + 1))) (some 1) none (M1 ++ [Ob.lst (nats c), Ob.lst (nats (List.range n))]) = some (.o (.lst (nats ((List.range n).drop 1))), M1 ++ [Ob.lst (nats c), Ob.lst (nats (List.range n))]) := by
      simp only [slF, seqOf, g2, Option.bind_some, cut_from (show (0 : Int) ≤ 1 by decide)]
      rw [show (1 : Int).toNat = 1 from rfl]
      simp only [nats, List.map_drop]
    have e2 : slF (.v (.ref (M1.length + 1))) none (some 1) (M1 ++ [Ob.lst (nats c), Ob.lst (nats (List.range n))]) = some (.o (.lst (nats ((List.range n).take 1))), M1 ++ [Ob.lst (nats c), Ob.lst (nats (List.range n))]) := by
      simp only [slF, seqOf, g2, Option.bind_some, cut_to (show (0 : Int) ≤ 1 by decide)]
      rw [show (1 : Int).toNat = 1 from rfl]
      simp only [nats, List.map_take]
    have e3 : addF (.o (.lst (nats ((List.range n).drop 1)))) (.o (.lst (nats ((List.range n).take 1)))) (M1 ++ [Ob.lst (nats c), Ob.lst (nats (List.range n))]) = some (.o (.lst (nats ((List.range n).drop 1 ++ (List.range n).take 1))), M1 ++ [Ob.lst (nats c), Ob.lst (nats (List.range n))]) := by
      have hf : fits ((nats ((List.range n).drop 1)).length + (nats ((List.range n).take 1)).length) := fits_of (by simp; omega)
      simp only [addF, lstOf, Option.bind_some, if_pos hf]
      simp [nats]
    simp only [h3, decide_true, wp, wx, e1, e2, e3]
    refine finO _ M1 _ (by simp; omega) (fun r hr => ?_) s1 f1
    rcases List.mem_append.mp hr with hr | hr
    · exact List.mem_range.mp (List.mem_of_mem_drop hr)
    · exact List.mem_range.mp (List.mem_of_mem_take hr)
  have in24 : ∀ M : Mem, inF false (.v (.int (way : Int))) (.v (.tup [.int 2, .int 4])) M = some (.v (.bl (decide ((2 : Int) = way) || decide ((4 : Int) = way))), M) := fun M => by
    have hf : flatD (.int (way : Int)) = true ∧ ([D.int 2, D.int 4]).all flatD = true := ⟨rfl, rfl⟩
    simp only [inF, seqOf, form, Option.bind_some, if_pos hf, Bool.false_eq_true, if_false]
    rw [List.any_cons, List.any_cons, List.any_nil, Bool.or_false]
    simp only [D.eqb]
  have tail : ∀ (p : List Nat) (e : Mem) (q : Nat) (a7 a8 a9 : Option D), p.length = n → (∀ r ∈ p, r < n) → M1.length ≤ q → (M1 ++ e)[q]? = some (.lst (nats p)) →
      WS (sSeq (sIf (bOf (eBin (inF false) (eVar 2) (eTup (aCons (eC (.int 2)) (aCons (eC (.int 4)) aNil))))) (sPut (eBin ixF (eVar 4) (eVar 6)) (gIx (eVar 4) (eVar 5))) sNil) (sRet (eVar 4))) [some st, some (.int (n : Int)), some (.int (way : Int)), some (.ref M1.length), some (.ref q), some (.int (one : Int)), some (.int (oth : Int)), a7, a8, a9] (M1 ++ e) (kFn M K) := fun p e q a7 a8 a9 hpl hp hq he => by
    simp only [wp, wx, in24]
    cases hb : (decide ((2 : Int) = way) || decide ((4 : Int) = way)) with
    | false =>
      simp only [wp, wx]
      exact finR p M1 e q hpl hp s1 f1 (by omega) he
    | true =>
      have ei := ixn_at he (i := oth) (by omega)
      have es : stoF (.v (.ref q)) (.v (.int (one : Int))) (.int ((p[oth]'(by omega) : Nat) : Int)) (M1 ++ e) = some ((M1 ++ e).set q (.lst (nats (p.set one (p[oth]'(by omega)))))) := by
        have : ixN (nats p).length (one : Int) = some one := by unfold ixN; simp; omega
        simp only [stoF, he, this, Option.map_some]
        simp [nats, List.map_set]
      simp only [wp, wx, ei, es]
      rw [List.set_append_right _ _ hq]
      refine finR (p.set one (p[oth]'(by omega))) M1 _ q (by simp [hpl]) (fun r hr => ?_) s1 f1 (by omega) ?_
      · rcases List.mem_or_eq_of_mem_set hr with hr | hr
        · exact hp r hr
        · subst hr; exact hp _ (List.getElem_mem _)
      · rw [← List.set_append_right _ _ hq]
        exact List.getElem?_set_self (List.getElem?_eq_some_iff.mp he).1
  simp only [h3, decide_false, wp, wx, ltF, cmp_int]
  by_cases hlt : (way : Int) < 3
  · simp only [hlt, decide_true, wp, wx]
    refine ⟨rg_nat (by omega), ?_⟩
    have g31 : ∀ u v w : Ob, (M1 ++ [u, v, w])[M1.length]? = some u := fun u v w => by rw [gm0]; rfl
    rw [Int.toNat_natCast, mkL_rg]
    simp only [wp, wx, List.append_assoc, List.cons_append, List.nil_append, List.length_append, List.length_cons, List.length_nil, Nat.zero_add, src_ref (g31 _ _ _)]
    refine pops_w rfl hcl hn2 fun p hpl hp => ?_
    simp only [wp, wx, List.append_assoc, List.cons_append, List.nil_append, List.length_append, List.length_cons, List.length_nil, Nat.zero_add]
    have t := tail p [Ob.lst (nats c), Ob.lst (nats (List.range n)), Ob.lst (nats []), Ob.lst (nats p)] (M1.length + 3) (some (.ref (M1.length + 2))) none none hpl hp (by omega) (by rw [gmk]; rfl)
    simp only [wp, wx] at t
    first | exact t | exact ⟨fits_of (by omega), t⟩
  · simp only [hlt, decide_false, wp, wx]
    have t := tail (List.range n) [Ob.lst (nats c), Ob.lst (nats (List.range n))] (M1.length + 1) none none none (by simp) (fun r hr => List.mem_range.mp hr) (by omega) (g2 _ _)
    simp only [wp, wx] at t
    exact t
def ofCols (n : Nat) (cs : List (List Nat)) : List (List Nat) := (List.range n).map fun r => cs.map fun c => c.getD r 0
theorem ofCols_mach {n : Nat} {cs : List (List Nat)} (h : ∀ c ∈ cs, c.length = n ∧ ∀ r ∈ c, r < n) : Mach (ofCols n cs) cs.length ∧ (ofCols n cs).length = n := by
  refine ⟨⟨fun row hr => ?_, fun row hr x hx => ?_⟩, by simp [ofCols]⟩
  · obtain ⟨i, _, rfl⟩ := List.mem_map.mp hr; simp
  · obtain ⟨i, hi, rfl⟩ := List.mem_map.mp hr
    obtain ⟨c, hc, rfl⟩ := List.mem_map.mp hx
    have hi' : i < c.length := by rw [(h c hc).1]; exact List.mem_range.mp hi
    rw [show (ofCols n cs).length = n by simp [ofCols]]
    simp only [List.getD, List.getElem?_eq_getElem hi', Option.getD_some]
    exact (h c hc).2 _ (List.getElem_mem _)
/-- the rows out of the columns -/
theorem rows_w {n : Nat} (hn2 : n ≤ 1000) {Mx : Mem} {q : Nat} {R : List Nat} {cs : List (List Nat)} (hl : R.length = cs.length) (hq : Mx[q]? = some (.lst (R.map D.ref))) (hR : ∀ (j : Nat) (h1 : j < R.length) (h2 : j < cs.length), Mx[R[j]]? = some (.lst (nats cs[j]))) (hc : ∀ c ∈ cs, c.length = n ∧ ∀ r ∈ c, r < n) {a0 a1 a2 a3 a4 a5 a7 a8 a9 a10 : Option D} {Q : List D → Mem → Prop} (k : Q ((ofCols n cs).map tN) Mx) :
    WC (.nm 9) bYes _law_machine_E2 [] [a0, a1, a2, a3, a4, a5, some (.ref q), a7, a8, a9, a10] (nats (List.range n)) Mx Q := by
  refine wc_map (fun (r : Nat) => D.int (r : Int)) (fun (r : Nat) => tN (cs.map fun c => c.getD r 0)) (List.range n) (fun r hr => ?_) ?_
  · have hr' : r < n := List.mem_range.mp hr
    simp only [wp, wx, w__law_machine_E2, src_ref hq]
    refine wc_inv (fun i acc M' => M' = Mx ∧ acc = nats ((cs.take i).map fun c => c.getD r 0)) ⟨rfl, by simp⟩ (fun _ _ _ _ j => by rw [j.1]; exact chk_one hq) (fun i x acc M' hx j => ?_) (fun acc M' j => ?_)
    · obtain ⟨rfl, rfl⟩ := j
      rw [List.getElem?_map] at hx
      obtain ⟨y, e1, rfl⟩ := Option.map_eq_some_iff.mp hx
      obtain ⟨hi, rfl⟩ := List.getElem?_eq_some_iff.mp e1
      have hi2 : i < cs.length := by omega
      have hci := hc cs[i] (List.getElem_mem hi2)
      have hlr : r < cs[i].length := by rw [hci.1]; exact hr'
      have ei : ixF (.v (.ref R[i])) (.v (.int (r : Int))) M' = some (.v (.int ((cs[i][r] : Nat) : Int)), M') := ixn_at (hR i hi hi2) hlr
      simp only [wp, wx, wc, w__law_machine_E1, ei]
      have hd : cs[i].getD r 0 = cs[i][r] := by simp [List.getD, hlr]
      rw [List.take_add_one, List.getElem?_eq_getElem hi2, Option.toList_some, List.map_append, List.map_cons, List.map_nil, hd]
      simp only [nats, List.map_append, List.map_cons, List.map_nil]
    · obtain ⟨rfl, rfl⟩ := j
      rw [List.length_map, hl, List.take_length]
      simp only [wp, wx, tup_ol]
      exact ⟨rfl, rfl⟩
  · rw [show ((List.range n).map fun (r : Nat) => tN (cs.map fun c => c.getD r 0)) = (ofCols n cs).map tN by simp [ofCols]]
    exact k
theorem mach3_w {st : D} {ab : List Nat} {S : Mem → Prop} (g : Gen st ab S m__law_next) {M : Mem} (h : S M) {mo le : Nat} (hmo : 0 < mo) (hmo2 : mo ≤ 900) (hle : 0 < le) (hle2 : le ≤ 900) {K : PO2}
    (k : ∀ (m : List (List Nat)) (l : Nat) (M' : Mem), Mach m l → 0 < m.length → m.length ≤ max 7 mo → 0 < l → l ≤ le → S M' → Fr ab M M' → K (.v (tM m)) M') : WO (m__law_machine [st, .int (mo : Int), .int (le : Int)] M) K := by
  unfold m__law_machine
  simp only [wp, wx, wf, Nat.reduceSub]
  refine g.w (n := 3) h (by omega) (by omega) fun pk M1 hpk s1 f1 => ?_
  obtain ⟨mm, hmm, hmm2, ei⟩ : ∃ mm : Nat, 0 < mm ∧ mm ≤ max 7 mo ∧ ixF (.o (.lst [.int 3, .int 7, .int (mo : Int)])) (.v (.int (pk : Int))) M1 = some (.v (.int (mm : Int)), M1) := by
    match pk, hpk with
    | 0, _ => exact ⟨3, by omega, by omega, ix_ol rfl⟩
    | 1, _ => exact ⟨7, by omega, by omega, ix_ol rfl⟩
    | 2, _ => exact ⟨mo, by omega, by omega, ix_ol rfl⟩
  simp only [wp, wx, ei]
  refine g.w (n := mm) s1 hmm (by omega) fun n0 M2 hn0 s2 f2 => ?_
  simp only [wp, wx, add_int]
  refine g.w (n := le) s2 hle (by omega) fun l0 M3 hl0 s3 f3 => ?_
  simp only [wp, wx, add_int]
  refine g.w (n := 10) s3 (by omega) (by omega) fun so M4 hso s4 f4 => ?_
  have a1 : (1 : Int) + (n0 : Int) = ((1 + n0 : Nat) : Int) := by omega
  have a2 : (1 : Int) + (l0 : Int) = ((1 + l0 : Nat) : Int) := by omega
  simp only [wp, wx, a1, a2]
  generalize hN : 1 + n0 = n at *
  generalize hLL : 1 + l0 = l at *
  refine ⟨rg_nat (by omega), ?_⟩
  rw [Int.toNat_natCast]
  have ea : ∀ (i : Nat) (M6 : Mem) (cs : List (List Nat)) (c : List Nat), cs.length = i → i < l → Fr ab M4 M6 → appF (.v (.ref M4.length)) (.o (.lst (nats c))) (M6 ++ .lst ((List.range i).map fun j => D.ref (M4.length + 1 + j)) :: cs.map fun c => Ob.lst (nats c)) = some (.v .non, M6 ++ .lst ((List.range (i + 1)).map fun j => D.ref (M4.length + 1 + j)) :: (cs ++ [c]).map fun c => Ob.lst (nats c)) := by
    intro i M6 cs c hcs hil f6
    have hM6 : M4.length = M6.length := f6.1.symm
    have hf : fits (((List.range i).map fun j => D.ref (M4.length + 1 + j)).length + 1) := fits_of (by simp; omega)
    have hg6 : (M6 ++ .lst ((List.range i).map fun j => D.ref (M4.length + 1 + j)) :: cs.map fun c => Ob.lst (nats c))[M4.length]? = some (.lst ((List.range i).map fun j => D.ref (M4.length + 1 + j))) := by rw [hM6, gm0]; rfl
    simp only [appF, hg6, if_pos hf, val]
    rw [List.append_assoc, List.cons_append, hM6, sm0]
    simp only [List.range_succ, List.map_append, List.map_cons, List.map_nil, List.length_append, List.length_cons, List.length_map, hcs]
    congr 5
    simp only [Nat.add_comm, Nat.add_left_comm]
    rfl
  refine wl_rg0 (fun i ρ M' => ∃ M5 cs x y, M' = M5 ++ .lst ((List.range i).map fun j => D.ref (M4.length + 1 + j)) :: cs.map (fun c => Ob.lst (nats c)) ∧ cs.length = i ∧ (∀ c ∈ cs, c.length = n ∧ ∀ r ∈ c, r < n) ∧ S M5 ∧ Fr ab M4 M5 ∧ ρ = [some st, some (.int (mo : Int)), some (.int (le : Int)), some (.int (n : Int)), some (.int (l : Int)), some (.int (so : Int)), some (.ref M4.length), x, y, none, none]) ⟨M4, [], none, none, by simp, rfl, by simp, s4, Fr.refl _ _, rfl⟩ (fun i ρ M' hi j => ?_) (fun ρ M' j => ?_)
  · obtain ⟨M5, cs, x, y, rfl, hcs, hc, s5, f5, rfl⟩ := j
    have e34 : ∃ w0 : Nat, ∀ M : Mem, ixF (.o (.lst [.int 3, .int 4])) (.v (.int ((i : Int) % 2))) M = some (.v (.int (w0 : Int)), M) := by
      rcases Nat.mod_two_eq_zero_or_one i with z | z
      · exact ⟨3, fun M => by rw [show (i : Int) % 2 = ((0 : Nat) : Int) by omega]; exact ix_ol rfl⟩
      · exact ⟨4, fun M => by rw [show (i : Int) % 2 = ((1 : Nat) : Int) by omega]; exact ix_ol rfl⟩
    obtain ⟨w0, e34⟩ := e34
    have em : ∀ M : Mem, modF (.v (.int (i : Int))) (.v (.int 2)) M = some (.v (.int ((i : Int) % 2)), M) := fun M => by rw [mod_int, if_pos (by omega)]
    have hcc : ∀ c, c.length = n → (∀ r ∈ c, r < n) → ∀ c' ∈ cs ++ [c], c'.length = n ∧ ∀ r ∈ c', r < n := fun c hcl hcr c' hc' => by
      rcases List.mem_append.mp hc' with hc' | hc'
      · exact hc c' hc'
      · simp at hc'; subst hc'; exact ⟨hcl, hcr⟩
    have hM5 : M4.length = M5.length := f5.1.symm
    have hg5 : ∀ (M5 : Mem) (u : Ob) (e : Mem), Fr ab M4 M5 → (M5 ++ u :: e)[M4.length]? = some u := fun M5 u e f5 => by rw [← f5.1, gm0]; rfl
    simp only [wp, wx, w__law_machine_F1, em, e34, ltF, cmp_int]
    by_cases h7 : (so : Int) < 7
    · have h9 : ¬ (so : Int) = 9 := by omega
      simp only [h7, decide_true, wp, wx, eq_int, h9, decide_false, isT_ref (hg5 M5 _ _ f5)]
      refine col3_w g (g.app s5 _) (by omega) (by omega) fun c M6' hcl hcr s6' f6' => ?_
      obtain ⟨M6, rfl, s6, f6⟩ := g.tail s5 s6' f6'
      simp only [wp, wx, ea i M6 cs c hcs hi (f5.trans f6)]
      exact ⟨M6, cs ++ [c], _, _, rfl, by simp [hcs], hcc c hcl hcr, s6, f5.trans f6, rfl⟩
    · simp only [h7, decide_false, wp, wx, eq_int]
      by_cases h9 : (so : Int) = 9
      · simp only [h9, decide_true, wp, wx]
        refine g.w (n := 7) (g.app s5 _) (by omega) (by omega) fun wy M7' hwy s7' f7' => ?_
        obtain ⟨M7, rfl, s7, f7⟩ := g.tail s5 s7' f7'
        simp only [wp, wx, isT_ref (hg5 M7 _ _ (f5.trans f7))]
        refine col3_w g (g.app s7 _) (by omega) (by omega) fun c M6' hcl hcr s6' f6' => ?_
        obtain ⟨M6, rfl, s6, f6⟩ := g.tail s7 s6' f6'
        simp only [wp, wx, ea i M6 cs c hcs hi ((f5.trans f7).trans f6)]
        exact ⟨M6, cs ++ [c], _, _, rfl, by simp [hcs], hcc c hcl hcr, s6, (f5.trans f7).trans f6, rfl⟩
      · simp only [h9, decide_false, wp, wx, isT_ref (hg5 M5 _ _ f5)]
        refine col3_w g (g.app s5 _) (by omega) (by omega) fun c M6' hcl hcr s6' f6' => ?_
        obtain ⟨M6, rfl, s6, f6⟩ := g.tail s5 s6' f6'
        simp only [wp, wx, ea i M6 cs c hcs hi (f5.trans f6)]
        exact ⟨M6, cs ++ [c], _, _, rfl, by simp [hcs], hcc c hcl hcr, s6, f5.trans f6, rfl⟩
  · obtain ⟨M5, cs, x, y, rfl, hcs, hc, s5, f5, rfl⟩ := j
    have hM5 : M4.length = M5.length := f5.1.symm
    have fA : Fr ab M M5 := (((f1.trans f2).trans f3).trans f4).trans f5
    have eR : ((List.range l).map fun j => D.ref (M4.length + 1 + j)) = ((List.range l).map fun j => M4.length + 1 + j).map D.ref := by rw [List.map_map]; rfl
    rw [eR]
    have hq : ∀ u : Ob, ∀ e : Mem, (M5 ++ u :: e)[M4.length]? = some u := fun u e => by rw [hM5, gm0]; rfl
    have hcol : ∀ (e : Mem) (u : Ob) (j : Nat) (hj : j < cs.length), (M5 ++ u :: (cs.map fun c => Ob.lst (nats c)) ++ e)[M4.length + 1 + j]? = some (.lst (nats cs[j])) := fun e u j hj => by
      rw [hM5, List.append_assoc, Nat.add_assoc, gmk, List.cons_append, Nat.add_comm 1 j, List.getElem?_cons_succ, List.getElem?_append_left (by simpa using hj), List.getElem?_map, List.getElem?_eq_getElem hj]; rfl
    have fin : ∀ (ds : List (List Nat)) (e : Mem), ds.length = l → (∀ c ∈ ds, c.length = n ∧ ∀ r ∈ c, r < n) → kFn M K (.rt (.v (tM (ofCols n ds))) (M5 ++ e)) := fun ds e hl hd => by
      obtain ⟨hm, hml⟩ := ofCols_mach hd
      rw [g.kFna fA s5 (by simp)]
      rw [hl] at hm
      exact k _ l M5 hm (by omega) (by omega) (by omega) (by omega) s5 fA
    simp only [wp, wx, eq_int]
    by_cases h8 : (so : Int) = 8
    · have hl0 : 0 < l := by omega
      have hc0 : 0 < cs.length := by omega
      have e1 : ∀ e : Mem, slF (.v (.ref M4.length)) none (some 1) (M5 ++ .lst (((List.range l).map fun j => M4.length + 1 + j).map D.ref) :: e) = some (.o (.lst [D.ref (M4.length + 1)]), M5 ++ .lst (((List.range l).map fun j => M4.length + 1 + j).map D.ref) :: e) := fun e => by
        simp only [slF, seqOf, hq, Option.bind_some, cut_to (show (0 : Int) ≤ 1 by decide)]
        rw [show (1 : Int).toNat = 1 from rfl]
        obtain ⟨l', rfl⟩ : ∃ l', l = l' + 1 := ⟨l - 1, by omega⟩
        rw [List.range_succ_eq_map]
        simp
      have e2 : ∀ M : Mem, mulF (.o (.lst [D.ref (M4.length + 1)])) (.v (.int (l : Int))) M = some (.o (.lst ((List.replicate l (M4.length + 1)).map D.ref)), M) := fun M => by
        have hcond : i63 (l : Int) ∧ fits l := ⟨i63_of (by omega) (by omega), fits_of (by omega)⟩
        simp [mulF, lstOf, hcond, rep_flat]
      simp only [h8, decide_true, wp, wx, e1, e2]
      refine ⟨rg_nat (by omega), ?_⟩
      rw [Int.toNat_natCast, upto_nats]
      refine rows_w (by omega) (R := List.replicate l (M4.length + 1)) (cs := List.replicate l cs[0]) (by simp) (get_end rfl) (fun j h1 h2 => ?_) (fun c hc' => ?_) ?_
      · have := hcol [Ob.lst ((List.replicate l (M4.length + 1)).map D.ref)] (.lst (((List.range l).map fun j => M4.length + 1 + j).map D.ref)) 0 hc0
        simpa using this
      · rw [List.eq_of_mem_replicate hc']; exact hc _ (List.getElem_mem _)
      · simp only [wp, wx, tup_ol, List.append_assoc]
        exact fin (List.replicate l cs[0]) _ (by simp) (fun c hc' => by rw [List.eq_of_mem_replicate hc']; exact hc _ (List.getElem_mem _))
    · simp only [h8, decide_false, wp, wx]
      refine ⟨rg_nat (by omega), ?_⟩
      rw [Int.toNat_natCast, upto_nats]
      refine rows_w (by omega) (R := (List.range l).map fun j => M4.length + 1 + j) (cs := cs) (by simp [hcs]) (hq _ _) (fun j h1 h2 => ?_) hc ?_
      · have := hcol [] (.lst (((List.range l).map fun j => M4.length + 1 + j).map D.ref)) j h2
        rw [List.append_nil] at this
        simpa using this
      · simp only [wp, wx, tup_ol]
        exact fin cs _ hcs hc
/-! ### a def's own objects behind the memory, while draws go on -/
def FrA (ab : List Nat) (M M' : Mem) : Prop := M.length ≤ M'.length ∧ ∀ i : Nat, i < M.length → i ∉ ab → M'[i]? = M[i]?
/-- what a def holds of its own stays -/
def Own (M M' M'' : Mem) : Prop := M''.length = M'.length ∧ ∀ q : Nat, M.length ≤ q → M''[q]? = M'[q]?
theorem Own.refl (M M' : Mem) : Own M M' M' := ⟨rfl, fun _ _ => rfl⟩
theorem Own.trans {M M1 M2 M3 : Mem} (h : Own M M1 M2) (k : Own M M2 M3) : Own M M1 M3 := ⟨k.1.trans h.1, fun q hq => (k.2 q hq).trans (h.2 q hq)⟩
structure Loc (ab : List Nat) (S : Mem → Prop) (M M' : Mem) : Prop where
  s0 : S M
  s : S M'
  fr : FrA ab M M'
section
variable {st : D} {ab : List Nat} {S : Mem → Prop} {nx : Fn} {M M' : Mem}
theorem Loc.new (h : S M) : Loc ab S M M := ⟨h, h, Nat.le_refl _, fun _ _ _ => rfl⟩
theorem Loc.le (L : Loc ab S M M') : M.length ≤ M'.length := L.fr.1
theorem Loc.step (g : Gen st ab S nx) (L : Loc ab S M M') {M2 : Mem} (s2 : S M2) (f : Fr ab M' M2) : Loc ab S M M2 ∧ Own M M' M2 :=
  ⟨⟨L.s0, s2, by rw [f.1]; exact L.fr.1, fun i hi hab => by rw [f.2 i hab]; exact L.fr.2 i hi hab⟩, f.1, fun q hq => f.2 q fun hab => absurd (g.ins M L.s0 q hab) (by omega)⟩
theorem Loc.w (g : Gen st ab S nx) (L : Loc ab S M M') {n : Nat} (hn : 0 < n) (hn2 : n ≤ 100000) {K : PO2} (k : ∀ (r : Nat) (M2 : Mem), r < n → Loc ab S M M2 → Own M M' M2 → K (.v (.int (r : Int))) M2) : WO (nx [st, .int (n : Int)] M') K :=
  g.w L.s hn hn2 fun r M2 hr s2 f2 => let ⟨a, b⟩ := L.step g s2 f2; k r M2 hr a b
theorem Loc.app (g : Gen st ab S nx) (L : Loc ab S M M') (e : Mem) : Loc ab S M (M' ++ e) := ⟨L.s0, g.app L.s e, by simp; have := L.fr.1; omega, fun i hi hab => by rw [List.getElem?_append_left (by have := L.fr.1; omega)]; exact L.fr.2 i hi hab⟩
theorem Loc.set (g : Gen st ab S nx) (L : Loc ab S M M') {q : Nat} (hq : M.length ≤ q) (o : Ob) : Loc ab S M (M'.set q o) :=
  ⟨L.s0, g.keep M' _ L.s fun i hi => by have := g.ins M L.s0 i hi; rw [List.getElem?_set_ne (by omega)], by simp; exact L.fr.1, fun i hi hab => by rw [List.getElem?_set_ne (by omega)]; exact L.fr.2 i hi hab⟩
theorem Loc.split (g : Gen st ab S nx) (L : Loc ab S M M') : ∃ M1 e, M' = M1 ++ e ∧ S M1 ∧ Fr ab M M1 := by
  have hl := L.fr.1
  refine ⟨M'.take M.length, M'.drop M.length, (List.take_append_drop _ _).symm, g.keep M' _ L.s fun i hi => ?_, ?_, fun i hi => ?_⟩
  · rw [List.getElem?_take_of_lt (g.ins M L.s0 i hi)]
  · rw [List.length_take]; omega
  · by_cases hj : i < M.length
    · rw [List.getElem?_take_of_lt hj, L.fr.2 i hj hi]
    · rw [List.getElem?_eq_none (by simp; omega), List.getElem?_eq_none (by omega)]
theorem Loc.kFn (g : Gen st ab S nx) (L : Loc ab S M M') {d : D} {K : PO2} (hd : d.lo M.length) (k : ∀ M1, S M1 → Fr ab M M1 → K (.v d) M1) : Q.kFn M K (.rt (.v d) M') := by
  obtain ⟨M1, e, rfl, s1, f1⟩ := L.split g
  rw [g.kFna f1 s1 hd]
  exact k M1 s1 f1
theorem Loc.kFnR (g : Gen st ab S nx) (L : Loc ab S M M') {b : Ob} {q : Nat} {K : PO2} (hq : M.length ≤ q) (he : M'[q]? = some b) (hd : b.lo M.length) (k : ∀ M1, S M1 → Fr ab M M1 → K (.o b) M1) : Q.kFn M K (.rt (.v (.ref q)) M') := by
  obtain ⟨M1, e, rfl, s1, f1⟩ := L.split g
  rw [kFn_rt, g.shutL f1 s1 hq he hd]
  exact k M1 s1 f1
theorem Loc.kFnO (g : Gen st ab S nx) (L : Loc ab S M M') {b : Ob} {K : PO2} (hd : b.lo M.length) (k : ∀ M1, S M1 → Fr ab M M1 → K (.o b) M1) : Q.kFn M K (.rt (.o b) M') := by
  obtain ⟨M1, e, rfl, s1, f1⟩ := L.split g
  rw [kFn_rt, g.shutO f1 s1 hd]
  exact k M1 s1 f1
/-- a tuple with a place of its own in it is handed back: all is kept -/
theorem Loc.kFnT (g : Gen st ab S nx) (L : Loc ab S M M') {xs : List D} {K : PO2} (hd : ¬ loL M.length xs) (k : K (.v (.tup xs)) M') : Q.kFn M K (.rt (.v (.tup xs)) M') := by
  obtain ⟨M1, e, rfl, s1, f1⟩ := L.split g
  rw [kFn_rt]
  unfold Q.shut
  rw [if_pos (g.okM f1 s1 e)]
  have : ¬ D.lo M.length (.tup xs) := by simpa using hd
  simp only [if_neg this]
  exact k
/-- draws that fill a list -/
theorem Loc.wds (g : Gen st ab S nx) (L : Loc ab S M M') {n : Nat} (hn : 0 < n) (hn2 : n ≤ 100000) {t : Tg} {f : E} {ρ : Env} {xs : List D} {Q : List D → Mem → Prop}
    (hE : ∀ x ∈ xs, WEnv (t.put x ρ) fun ρ' => ∀ (M : Mem) (K : PO2), WO (nx [st, .int (n : Int)] M) K → WE f ρ' M K)
    (k : ∀ (w : List Nat) (M2 : Mem), w.length = xs.length → (∀ r ∈ w, r < n) → Loc ab S M M2 → Own M M' M2 → Q (nats w) M2) : WC t bYes f [] ρ xs M' Q :=
  g.wds hn hn2 L.s hE fun w M2 hw hr s2 f2 => let ⟨a, b⟩ := L.step g s2 f2; k w M2 hw hr a b
end
theorem get_app {M : Mem} {e : Mem} {q : Nat} {o : Ob} (h : M[q]? = some o) : (M ++ e)[q]? = some o := by rw [List.getElem?_append_left (List.getElem?_eq_some_iff.mp h).1]; exact h
theorem get_lt {M : Mem} {q : Nat} {o : Ob} (h : M[q]? = some o) : q < M.length := (List.getElem?_eq_some_iff.mp h).1
theorem get_put {M : Mem} {q : Nat} {o o' : Ob} (h : M[q]? = some o) : (M.set q o')[q]? = some o' := by rw [List.getElem?_set_self (get_lt h)]
theorem get_other {M : Mem} {q p : Nat} {o o' : Ob} (h : M[q]? = some o) (hp : p ≠ q) : (M.set p o')[q]? = some o := by rw [List.getElem?_set_ne hp]; exact h
theorem Own.get {M M1 M2 : Mem} (h : Own M M1 M2) {q : Nat} {o : Ob} (hq : M.length ≤ q) (e : M1[q]? = some o) : M2[q]? = some o := by rw [h.2 q hq]; exact e
theorem app_ref {M : Mem} {q : Nat} {xs : List D} {d : D} (h : M[q]? = some (.lst xs)) (hl : xs.length ≤ 90000) : appF (.v (.ref q)) (.v d) M = some (.v .non, M.set q (.lst (xs ++ [d]))) := by
  have hf : fits (xs.length + 1) := fits_of (by omega)
  simp only [appF, h, if_pos hf, val_v]
theorem app_refO {M : Mem} {q : Nat} {xs : List D} {o : Ob} (h : M[q]? = some (.lst xs)) (hl : xs.length ≤ 90000) : appF (.v (.ref q)) (.o o) M = some (.v .non, (M ++ [o]).set q (.lst (xs ++ [.ref M.length]))) := by
  have hf : fits (xs.length + 1) := fits_of (by omega)
  simp only [appF, h, if_pos hf, val_o]
theorem snocRec {α : Type} {P : List α → Prop} (nil : P []) (snoc : ∀ (l : List α) (x : α), P l → P (l ++ [x])) (l : List α) : P l := by
  have : ∀ r : List α, P r.reverse := fun r => by
    induction r with
    | nil => exact nil
    | cons a r ih => rw [List.reverse_cons]; exact snoc _ _ ih
  have h := this l.reverse
  rw [List.reverse_reverse] at h
  exact h
/-! ### classes by their numbers -/
def firstsN (c : List Nat) : List Nat := c.foldl (fun l x => if x ∈ l then l else l ++ [x]) []
def numN (c : List Nat) : List Nat := c.map fun x => (firstsN c).idxOf x
theorem firstsN_snoc (c : List Nat) (x : Nat) : firstsN (c ++ [x]) = if x ∈ firstsN c then firstsN c else firstsN c ++ [x] := by unfold firstsN; rw [List.foldl_append]; rfl
theorem firstsN_mem (c : List Nat) : (∀ x, x ∈ firstsN c ↔ x ∈ c) ∧ (firstsN c).length ≤ c.length ∧ (firstsN c).Nodup := by
  induction c using snocRec with
  | nil => simp [firstsN]
  | snoc c x ih =>
    obtain ⟨h1, h2, h3⟩ := ih
    rw [firstsN_snoc]
    by_cases h : x ∈ firstsN c
    · rw [if_pos h]
      refine ⟨fun y => ?_, by simp; omega, h3⟩
      rw [h1, List.mem_append, List.mem_singleton]
      constructor
      · exact fun z => .inl z
      · rintro (z | rfl)
        · exact z
        · exact (h1 _).mp h
    · rw [if_neg h]
      refine ⟨fun y => ?_, by simp; omega, ?_⟩
      · rw [List.mem_append, List.mem_append, h1]
      · rw [List.nodup_append]
        exact ⟨h3, by simp, fun a ha b hb => by simp at hb; subst hb; exact fun z => h (z ▸ ha)⟩
theorem numN_len (c : List Nat) : (numN c).length = c.length := by simp [numN]
theorem numN_lt {c : List Nat} {r : Nat} (h : r ∈ numN c) : r < c.length := by
  obtain ⟨x, hx, rfl⟩ := List.mem_map.mp h
  have := firstsN_mem c
  have h2 : (firstsN c).idxOf x < (firstsN c).length := List.idxOf_lt_length_of_mem ((this.1 x).mpr hx)
  omega
theorem numN_eq {c : List Nat} {i j : Nat} (hi : i < c.length) (hj : j < c.length) : (numN c).getD i 0 = (numN c).getD j 0 ↔ c[i] = c[j] := by
  have e : ∀ k (hk : k < c.length), (numN c).getD k 0 = (firstsN c).idxOf c[k] := fun k hk => by simp [numN, List.getD, hk]
  rw [e i hi, e j hj]
  constructor
  · intro h
    have m1 := ((firstsN_mem c).1 c[i]).mpr (List.getElem_mem hi)
    have m2 := ((firstsN_mem c).1 c[j]).mpr (List.getElem_mem hj)
    have l1 := List.idxOf_lt_length_of_mem m1
    have l2 := List.idxOf_lt_length_of_mem m2
    have g1 : (firstsN c)[(firstsN c).idxOf c[i]] = c[i] := List.getElem_idxOf l1
    have g2 : (firstsN c)[(firstsN c).idxOf c[j]] = c[j] := List.getElem_idxOf l2
    rw [← g1, ← g2]
    congr 1
  · intro h; rw [h]
noncomputable def _law_copies_C1 (ρ : Env) (m : Mem) : Option (Bool × Mem) := (bOf (eBin eqF (eBin ixF (eVar 5) (eVar 12)) (eVar 10))) ρ m
theorem w__law_copies_C1 {ρ : Env} {M : Mem} {Q : Bool → Mem → Prop} : WB _law_copies_C1 ρ M Q ↔ WB (bOf (eBin eqF (eBin ixF (eVar 5) (eVar 12)) (eVar 10))) ρ M Q := Iff.rfl
noncomputable def _law_copies_E1 (ρ : Env) (m : Mem) : Option (Out × Mem) := (eVar 12) ρ m
theorem w__law_copies_E1 {ρ : Env} {M : Mem} {Q : PO2} : WE _law_copies_E1 ρ M Q ↔ WE (eVar 12) ρ M Q := Iff.rfl
noncomputable def _law_copies_F1 (ρ : Env) (m : Mem) : Option R := (sSeq (sSet 11 (eComp (iRg1 (eVar 4)) [12] (.nm 12) _law_copies_C1 _law_copies_E1))
    (sDo (eMt1 "list" appF (eVar 9) (eBin ixF (eVar 11) (eCall m__law_next (aCons (eVar 0) (aCons (eUn lenF (eVar 11)) aNil))))))) ρ m
theorem w__law_copies_F1 {ρ : Env} {M : Mem} {Q : R → Prop} : WS _law_copies_F1 ρ M Q ↔ WS (sSeq (sSet 11 (eComp (iRg1 (eVar 4)) [12] (.nm 12) _law_copies_C1 _law_copies_E1))
    (sDo (eMt1 "list" appF (eVar 9) (eBin ixF (eVar 11) (eCall m__law_next (aCons (eVar 0) (aCons (eUn lenF (eVar 11)) aNil))))))) ρ M Q := Iff.rfl
noncomputable def _law_copies_F2 (ρ : Env) (m : Mem) : Option R := (sSeq (sSet 9 (eLst aNil))
    (sSeq (sFor (iE (eBin ixF (eVar 3) (eVar 8))) (gT (.nm 10)) _law_copies_F1)
    (sDo (eMt1 "list" appF (eVar 7) (eUn tupF (eVar 9)))))) ρ m
theorem w__law_copies_F2 {ρ : Env} {M : Mem} {Q : R → Prop} : WS _law_copies_F2 ρ M Q ↔ WS (sSeq (sSet 9 (eLst aNil))
    (sSeq (sFor (iE (eBin ixF (eVar 3) (eVar 8))) (gT (.nm 10)) _law_copies_F1)
    (sDo (eMt1 "list" appF (eVar 7) (eUn tupF (eVar 9)))))) ρ M Q := Iff.rfl
noncomputable def _law_copies_E2 (ρ : Env) (m : Mem) : Option (Out × Mem) := (eCall m__law_next (aCons (eVar 0) (aCons (eUn lenF (eVar 3)) aNil))) ρ m
theorem w__law_copies_E2 {ρ : Env} {M : Mem} {Q : PO2} : WE _law_copies_E2 ρ M Q ↔ WE (eCall m__law_next (aCons (eVar 0) (aCons (eUn lenF (eVar 3)) aNil))) ρ M Q := Iff.rfl
noncomputable def m__law_copies : Fn := fnD 3 13
    (sSeq (sSet 3 (eCall m__law_machine (aCons (eVar 0) (aCons (eC (.int 7)) (aCons (eVar 2) aNil)))))
    (sSeq (sSet 4 (eBin addF (eUn lenF (eVar 3)) (eCall m__law_next (aCons (eVar 0) (aCons (eBin subF (eBin addF (eVar 1) (eC (.int 1))) (eUn lenF (eVar 3))) aNil)))))
    (sSeq (sSet 5 (eBin addF (eRg1 mkL (eUn lenF (eVar 3))) (eComp (iRg1 (eBin subF (eVar 4) (eUn lenF (eVar 3)))) [12] (.nm 12) bYes _law_copies_E2)))
    (sSeq (sSet 6 (eCall m__law_next (aCons (eVar 0) (aCons (eVar 4) aNil))))
    (sSeq (sSet 5 (eBin addF (eSl (eVar 5) (oSome (eVar 6)) oNone) (eSl (eVar 5) oNone (oSome (eVar 6)))))
    (sSeq (sSet 7 (eLst aNil))
    (sSeq (sFor (iE (eVar 5)) (gT (.nm 8)) _law_copies_F2)
    (sRet (eTup (aCons (eUn tupF (eVar 7)) (aCons (eVar 5) aNil)))))))))))
noncomputable def _law_numbered_E1 (ρ : Env) (m : Mem) : Option (Out × Mem) := (eMt1 "list" idxLF (eVar 1) (eVar 2)) ρ m
theorem w__law_numbered_E1 {ρ : Env} {M : Mem} {Q : PO2} : WE _law_numbered_E1 ρ M Q ↔ WE (eMt1 "list" idxLF (eVar 1) (eVar 2)) ρ M Q := Iff.rfl
noncomputable def _law_numbered_F1 (ρ : Env) (m : Mem) : Option R := (sIf (bOf (eBin (inF true) (eVar 2) (eVar 1))) (sDo (eMt1 "list" appF (eVar 1) (eVar 2))) sNil) ρ m
theorem w__law_numbered_F1 {ρ : Env} {M : Mem} {Q : R → Prop} : WS _law_numbered_F1 ρ M Q ↔ WS (sIf (bOf (eBin (inF true) (eVar 2) (eVar 1))) (sDo (eMt1 "list" appF (eVar 1) (eVar 2))) sNil) ρ M Q := Iff.rfl
noncomputable def m__law_numbered : Fn := fnD 1 3
    (sSeq (sSet 1 (eLst aNil))
    (sSeq (sFor (iE (eVar 0)) (gT (.nm 2)) _law_numbered_F1)
    (sRet (eUn tupF (eComp (iE (eVar 0)) [2] (.nm 2) bYes _law_numbered_E1)))))
noncomputable def _law_either_E1 (ρ : Env) (m : Mem) : Option (Out × Mem) := (eCall m__law_next (aCons (eVar 0) (aCons (eVar 4) aNil))) ρ m
theorem w__law_either_E1 {ρ : Env} {M : Mem} {Q : PO2} : WE _law_either_E1 ρ M Q ↔ WE (eCall m__law_next (aCons (eVar 0) (aCons (eVar 4) aNil))) ρ M Q := Iff.rfl
noncomputable def m__law_either : Fn := fnD 3 7
    (sSeq (sIf (bOf (eBin eqF (eCall m__law_next (aCons (eVar 0) (aCons (eC (.int 2)) aNil))) (eC (.int 0)))) (sPut (eCall m__law_copies (aCons (eVar 0) (aCons (eVar 1) (aCons (eVar 2) aNil)))) (gT (.tp [3, 5]))) (sSeq (sSet 3 (eCall m__law_machine (aCons (eVar 0) (aCons (eVar 1) (aCons (eVar 2) aNil)))))
    (sSeq (sSet 4 (eBin addF (eC (.int 1)) (eCall m__law_next (aCons (eVar 0) (aCons (eUn lenF (eVar 3)) aNil)))))
    (sSet 5 (eComp (iE (eVar 3)) [6] (.nm 6) bYes _law_either_E1)))))
    (sRet (eTup (aCons (eVar 3) (aCons (eCall m__law_numbered (aCons (eVar 5) aNil)) aNil)))))
/-! ### machines with a parting -/
theorem numbered_w {M : Mem} {q : Nat} {c : List Nat} (h : M[q]? = some (.lst (nats c))) (hl : c.length ≤ 1000) {K : PO2} (k : K (.v (tN (numN c))) M) : WO (m__law_numbered [.ref q] M) K := by
  unfold m__law_numbered
  have hg : ∀ u : Ob, (M ++ [u])[M.length]? = some u := fun u => get_end rfl
  have hq : ∀ u : Ob, (M ++ [u])[q]? = some (.lst (nats c)) := fun u => get_app h
  simp only [wp, wx, wf, Nat.reduceSub, src_ref (hq _)]
  refine wl_typl (fun (r : Nat) => D.int (r : Int)) c (fun i ρ M' => M' = M ++ [.lst (nats (firstsN (c.take i)))] ∧ ∃ x, ρ = [some (.ref q), some (.ref M.length), x]) ⟨by simp [firstsN], none, rfl⟩ (fun i ρ M' j => by rw [j.1]; exact hq _) (fun i hi ρ M' j => ?_) (fun ρ M' j => ?_)
  · obtain ⟨rfl, x, rfl⟩ := j
    have ht : c.take (i + 1) = c.take i ++ [c[i]] := by rw [List.take_add_one, List.getElem?_eq_getElem hi]; rfl
    have hn := firstsN_snoc (c.take i) c[i]
    rw [← ht] at hn
    have hlen := (firstsN_mem (c.take i)).2.1
    rw [List.length_take] at hlen
    have hb : (nats (firstsN (c.take i))).length ≤ 90000 := by rw [List.length_map]; omega
    simp only [wp, wx, w__law_numbered_F1, in_list (hg _), if_true]
    by_cases hm : c[i] ∈ firstsN (c.take i)
    · rw [if_pos hm] at hn
      simp only [hm, decide_true, Bool.not_true, wp, wx]
      exact ⟨by rw [hn], _, rfl⟩
    · rw [if_neg hm] at hn
      simp only [hm, decide_false, Bool.not_false, wp, wx, isT_ref (hg _), app_ref (hg _) hb, set_end rfl]
      refine ⟨?_, _, rfl⟩
      rw [hn]; simp [nats]
  · obtain ⟨rfl, x, rfl⟩ := j
    rw [List.take_length]
    simp only [wp, wx, src_ref (hq _)]
    refine wc_mapL3 (fun (r : Nat) => D.int (r : Int)) (fun (r : Nat) => D.int (((firstsN c).idxOf r : Nat) : Int)) c (chk_one (hq _)) (fun y hy => ?_) ?_
    · simp only [wp, wx, w__law_numbered_E1, isT_ref (hg _), idx_list (hg _) (((firstsN_mem c).1 y).mpr hy)]
      exact ⟨rfl, rfl⟩
    · simp only [wp, wx, tup_ol]
      have : (c.map fun (r : Nat) => D.int (((firstsN c).idxOf r : Nat) : Int)) = nats (numN c) := by simp [nats, numN]
      rw [this, tN_eq, kFn_va (by simp)]
      exact k
def KeptBy (m : List (List Nat)) (l : Nat) (p : List Nat) : Prop := ∀ i j a, i < m.length → j < m.length → a < l → p.getD i 0 = p.getD j 0 → p.getD (stp m i a) 0 = p.getD (stp m j a) 0
theorem copies_w {st : D} {ab : List Nat} {S : Mem → Prop} (g : Gen st ab S m__law_next) {M : Mem} (h : S M) {mo le : Nat} (hmo : 7 ≤ mo) (hmo2 : mo ≤ 900) (hle : 0 < le) (hle2 : le ≤ 900) {K : PO2}
    (k : ∀ (m : List (List Nat)) (l : Nat) (ow : List Nat) (q : Nat) (M' : Mem), Mach m l → 0 < m.length → m.length ≤ mo → 0 < l → l ≤ le → ow.length = m.length → KeptBy m l ow → M.length ≤ q → M'[q]? = some (.lst (nats ow)) → Loc ab S M M' → K (.v (.tup [tM m, .ref q])) M') :
    WO (m__law_copies [st, .int (mo : Int), .int (le : Int)] M) K := by
  unfold m__law_copies
  simp only [wp, wx, wf, Nat.reduceSub]
  refine mach3_w g h (mo := 7) (by omega) (by omega) hle hle2 fun b l M1 hb hb0 hb7 hl0 hlle s1 f1 => ?_
  obtain ⟨L1, -⟩ := (Loc.new h).step g s1 f1
  have hb7 : b.length ≤ 7 := by omega
  have e1 : (mo : Int) + 1 - (b.length : Int) = ((mo + 1 - b.length : Nat) : Int) := by omega
  simp only [wp, wx, len_tM, add_int, sub_int, e1]
  refine L1.w g (by omega) (by omega) fun r0 M2 hr0 L2 o2 => ?_
  have e2 : (b.length : Int) + (r0 : Int) = ((b.length + r0 : Nat) : Int) := by omega
  simp only [wp, wx, len_tM, add_int, e2]
  generalize hN : b.length + r0 = n at *
  have hn : n ≤ mo := by omega
  refine ⟨rg_nat (by omega), ?_⟩
  have e3 : (n : Int) - (b.length : Int) = ((n - b.length : Nat) : Int) := by omega
  simp only [wp, wx, len_tM, sub_int, e3, Int.toNat_natCast, mkL_rg]
  refine ⟨rg_nat (by omega), ?_⟩
  refine L2.wds g (n := b.length) hb0 (by omega) (fun y _ => ?_) (fun w M3 hwl hw L3 o3 => ?_)
  · simp only [wp, wx, w__law_copies_E2, len_tM]; exact fun M K h => h
  rw [upto_len] at hwl
  have ea : addF (.o (.lst (nats (List.range b.length)))) (.o (.lst (nats w))) M3 = some (.o (.lst (nats (List.range b.length ++ w))), M3) := by
    rw [add_ol (by simp; omega)]; simp [nats]
  simp only [wp, wx, ea]
  have L3' := L3.app g [.lst (nats (List.range b.length ++ w))]
  refine L3'.w g (n := n) (by omega) (by omega) fun tn M4 htn L4 o4 => ?_
  have ho4 : M4[M3.length]? = some (.lst (nats (List.range b.length ++ w))) := o4.get L3.le (get_end rfl)
  have c1 : cutD (nats (List.range b.length ++ w)) (some (tn : Int)) none = nats ((List.range b.length ++ w).drop tn) := by rw [cut_from (by omega)]; simp [nats]
  have c2 : cutD (nats (List.range b.length ++ w)) none (some (tn : Int)) = nats ((List.range b.length ++ w).take tn) := by rw [cut_to (by omega)]; simp [nats]
  obtain ⟨ow, how⟩ : ∃ ow, ow = (List.range b.length ++ w).drop tn ++ (List.range b.length ++ w).take tn := ⟨_, rfl⟩
  have hol : ow.length = n := by rw [how]; simp; omega
  have hoa : ∀ x ∈ ow, x < b.length := fun x hx => by
    have : x ∈ List.range b.length ++ w := by
      rw [how] at hx
      rcases List.mem_append.mp hx with hx | hx
      · exact List.mem_of_mem_drop hx
      · exact List.mem_of_mem_take hx
    rcases List.mem_append.mp this with hx | hx
    · exact List.mem_range.mp hx
    · exact hw x hx
  have hob : ∀ x, x < b.length → x ∈ ow := fun x hx => by
    have : x ∈ List.range b.length ++ w := List.mem_append_left _ (List.mem_range.mpr hx)
    rw [← List.take_append_drop tn (List.range b.length ++ w)] at this
    rw [how]
    rcases List.mem_append.mp this with z | z
    · exact List.mem_append_right _ z
    · exact List.mem_append_left _ z
  have ea2 : addF (.o (.lst (nats ((List.range b.length ++ w).drop tn)))) (.o (.lst (nats ((List.range b.length ++ w).take tn)))) M4 = some (.o (.lst (nats ow)), M4) := by
    rw [add_ol (by simp; omega), how]; simp [nats]
  simp only [wp, wx, sl_ref ho4, c1, c2, ea2]
  have L5 := L4.app g [.lst (nats ow)]
  have L6 := L5.app g [.lst []]
  have hqo : (M4 ++ [Ob.lst (nats ow)] ++ [.lst []])[M4.length]? = some (.lst (nats ow)) := get_app (get_end rfl)
  have hqr : (M4 ++ [Ob.lst (nats ow)] ++ [.lst []])[(M4 ++ [Ob.lst (nats ow)]).length]? = some (.lst []) := get_end rfl
  generalize hqO : M4.length = qo at *
  generalize hqR : (M4 ++ [Ob.lst (nats ow)]).length = qr at *
  have hqor : qo ≠ qr := by rw [← hqR]; simp; omega
  have hMo : M.length ≤ qo := by rw [← hqO]; exact L4.le
  have hMr : M.length ≤ qr := by rw [← hqR]; exact L5.le
  generalize hM6 : M4 ++ [Ob.lst (nats ow)] ++ [.lst []] = M6 at *
  clear hM6
  simp only [src_ref hqo, wp, wx]
  refine wl_typl (fun (r : Nat) => D.int (r : Int)) ow (fun i ρ M' => ∃ (rows : List (List Nat)) (x8 x9 x10 x11 : Option D), Loc ab S M M' ∧ M'[qo]? = some (.lst (nats ow)) ∧ M'[qr]? = some (.lst (rows.map tN)) ∧ rows.length = i ∧ (∀ (j : Nat) (hj : j < rows.length), rows[j].length = l ∧ ∀ (a : Nat) (ha : a < rows[j].length), rows[j][a] < n ∧ ow.getD rows[j][a] 0 = stp b (ow.getD j 0) a) ∧
      ρ = [some st, some (.int (mo : Int)), some (.int (le : Int)), some (tM b), some (.int (n : Int)), some (.ref qo), some (.int (tn : Int)), some (.ref qr), x8, x9, x10, x11, none]) ⟨[], none, none, none, none, L6, hqo, hqr, rfl, by simp, rfl⟩ (fun i ρ M' j => by obtain ⟨_, _, _, _, _, _, z, _⟩ := j; exact z) (fun i hi ρ M' j => ?_) (fun ρ M' j => ?_)
  · obtain ⟨rows, x8, x9, x10, x11, L', ho', hr', hrl, hrows, rfl⟩ := j
    have hown : ow[i] < b.length := hoa _ (List.getElem_mem hi)
    have hLa := L'.app g [.lst []]
    have hrow0 : (M' ++ [Ob.lst []])[M'.length]? = some (.lst []) := get_end rfl
    have hno : M'.length ≠ qo := by have := get_lt ho'; omega
    have hnr : M'.length ≠ qr := by have := get_lt hr'; omega
    have hMw : M.length ≤ M'.length := L'.le
    generalize hqw : M'.length = qw at *
    simp only [wp, wx, w__law_copies_F2, ix_row hown, src_tN, hqw]
    have hbl : b[ow[i]].length = l := hb.row hown
    refine wl_typ (fun (r : Nat) => D.int (r : Int)) b[ow[i]] (fun i2 ρ M2 => ∃ (row : List Nat) (x10 x11 : Option D), Loc ab S M M2 ∧ M2[qo]? = some (.lst (nats ow)) ∧ M2[qr]? = some (.lst (rows.map tN)) ∧ M2[qw]? = some (.lst (nats row)) ∧ row.length = i2 ∧ (∀ (a : Nat) (ha : a < row.length), row[a] < n ∧ ow.getD row[a] 0 = stp b ow[i] a) ∧
      ρ = [some st, some (.int (mo : Int)), some (.int (le : Int)), some (tM b), some (.int (n : Int)), some (.ref qo), some (.int (tn : Int)), some (.ref qr), some (.int (ow[i] : Int)), some (.ref qw), x10, x11, none]) ⟨[], x10, x11, hLa, get_app ho', get_app hr', hrow0, rfl, by simp, rfl⟩ (fun i2 hi2 ρ M2 j => ?_) (fun ρ M2 j => ?_)
    · obtain ⟨row, x10, x11, L2', ho2, hr2, hw2, hwl2, hrow, rfl⟩ := j
      have hgoal : b[ow[i]][i2] < b.length := hb.lt _ (List.getElem_mem hown) _ (List.getElem_mem hi2)
      simp only [wp, wx, w__law_copies_F1]
      refine ⟨rg_nat (by omega), ?_⟩
      rw [Int.toNat_natCast, upto_nats]
      generalize hgl : b[ow[i]][i2] = gl at *
      refine wc_flt (fun (r : Nat) => D.int (r : Int)) (fun (r : Nat) => D.int (r : Int)) (fun r => decide (ow.getD r 0 = gl)) (List.range n) (fun y hy => ?_) ?_
      · have hy' : y < ow.length := by rw [hol]; exact List.mem_range.mp hy
        simp only [wp, wx]
        refine ⟨wb_eq ?_, fun _ => ?_⟩
        · simp only [wp, wx, w__law_copies_C1, ixn_at ho2 hy', eq_int]
          rw [getD_get hy']
          exact ⟨decide_eq_decide.mpr (by omega), trivial⟩
        · simp only [wp, wx, w__law_copies_E1]
          exact ⟨rfl, rfl⟩
      · obtain ⟨cp, hcp⟩ : ∃ cp, cp = (List.range n).filter (fun r => decide (ow.getD r 0 = gl)) := ⟨_, rfl⟩
        rw [← hcp]
        have hcpm : ∀ x ∈ cp, x < n ∧ ow.getD x 0 = gl := fun x hx => by
          rw [hcp] at hx
          have := List.mem_filter.mp hx
          exact ⟨List.mem_range.mp this.1, by simpa using this.2⟩
        have hcp0 : 0 < cp.length := by
          obtain ⟨j, hj, ej⟩ := List.getElem_of_mem (hob gl hgoal)
          refine List.length_pos_of_mem (a := j) ?_
          rw [hcp]
          exact List.mem_filter.mpr ⟨List.mem_range.mpr (by omega), by rw [getD_get hj, ej]; simp⟩
        have hcpl : cp.length ≤ n := by rw [hcp]; have := List.length_filter_le (fun r => decide (ow.getD r 0 = gl)) (List.range n); simpa using this
        have L3' := L2'.app g [.lst (nats cp)]
        have hc3 : (M2 ++ [Ob.lst (nats cp)])[M2.length]? = some (.lst (nats cp)) := get_end rfl
        have hMc : M.length ≤ M2.length := L2'.le
        have hlc : lenF (.v (.ref M2.length)) (M2 ++ [Ob.lst (nats cp)]) = some (.v (.int (cp.length : Int)), M2 ++ [Ob.lst (nats cp)]) := by rw [len_ref hc3]; simp [nats]
        have hw3 : (M2 ++ [Ob.lst (nats cp)])[qw]? = some (.lst (nats row)) := get_app hw2
        have e0 : (cp.map fun (r : Nat) => D.int (r : Int)) = nats cp := rfl
        simp only [wp, wx, e0, isT_ref hw3, hlc]
        refine L3'.w g hcp0 (by omega) fun pk M4 hpk L4' o4' => ?_
        have hc4 := o4'.get hMc hc3
        have hw4 := o4'.get hMw hw3
        have hpp := hcpm _ (List.getElem_mem hpk)
        have hrb : (nats row).length ≤ 90000 := by rw [List.length_map]; omega
        simp only [wp, wx, ixn_at hc4 hpk, app_ref hw4 hrb]
        refine ⟨row ++ [cp[pk]], _, _, L4'.set g hMw _, get_other (o4'.get hMo (get_app ho2)) hno, get_other (o4'.get hMr (get_app hr2)) hnr, ?_, by simp [hwl2], fun a ha => ?_, rfl⟩
        · rw [get_put hw4]; simp [nats]
        · simp only [List.length_append, List.length_cons, List.length_nil] at ha
          by_cases ha2 : a < row.length
          · rw [List.getElem_append_left ha2]; exact hrow a ha2
          · have : a = row.length := by omega
            subst this
            rw [List.getElem_append_right (Nat.le_refl _)]
            simp only [Nat.sub_self, List.getElem_cons_zero]
            refine ⟨hpp.1, hpp.2.trans ?_⟩
            rw [stp_rows hown (by omega), ← hgl]
            simp only [hwl2]
    · obtain ⟨row, x10, x11, L2', ho2, hr2, hw2, hwl2, hrow, rfl⟩ := j
      have hrb : (rows.map tN).length ≤ 90000 := by rw [List.length_map]; omega
      simp only [wp, wx, isT_ref hr2, tup_ref hw2, app_ref hr2 hrb]
      refine ⟨rows ++ [row], _, _, _, _, L2'.set g hMr _, get_other ho2 hqor.symm, ?_, by simp [hrl], fun j hj => ?_, rfl⟩
      · rw [get_put hr2]; simp [tN]
      · simp only [List.length_append, List.length_cons, List.length_nil] at hj
        by_cases hj2 : j < rows.length
        · simp only [List.getElem_append_left hj2]; exact hrows j hj2
        · have : j = rows.length := by omega
          subst this
          simp only [List.getElem_append_right (Nat.le_refl _), Nat.sub_self, List.getElem_cons_zero]
          refine ⟨by omega, fun a ha => ?_⟩
          have := hrow a ha
          simp only [hrl]
          rw [getD_get hi]
          exact this
  · obtain ⟨rows, x8, x9, x10, x11, L', ho', hr', hrl, hrows, rfl⟩ := j
    simp only [wp, wx, tup_ref hr']
    have hml : rows.length = n := by omega
    have hm : Mach rows l := ⟨fun row hr => by obtain ⟨j, hj, rfl⟩ := List.getElem_of_mem hr; exact (hrows j hj).1, fun row hr x hx => by
      obtain ⟨j, hj, rfl⟩ := List.getElem_of_mem hr
      obtain ⟨a, ha, rfl⟩ := List.getElem_of_mem hx
      rw [hml]; exact ((hrows j hj).2 a ha).1⟩
    refine L'.kFnT g (by simp; omega) ?_
    refine k rows l ow qo M' hm (by omega) (by omega) hl0 hlle (by omega) (fun i j a hi hj ha e => ?_) hMo ho' L'
    have r1 := (hrows i hi).2 a (by rw [(hrows i hi).1]; exact ha)
    have r2 := (hrows j hj).2 a (by rw [(hrows j hj).1]; exact ha)
    rw [stp_rows hi (by rw [(hrows i hi).1]; exact ha), stp_rows hj (by rw [(hrows j hj).1]; exact ha), r1.2, r2.2, e]
theorem either_w {st : D} {ab : List Nat} {S : Mem → Prop} (g : Gen st ab S m__law_next) {M : Mem} (h : S M) {mo le : Nat} (hmo : 7 ≤ mo) (hmo2 : mo ≤ 900) (hle : 0 < le) (hle2 : le ≤ 900) {K : PO2}
    (k : ∀ (m : List (List Nat)) (l : Nat) (c : List Nat) (M' : Mem), Mach m l → 0 < m.length → m.length ≤ mo → 0 < l → l ≤ le → c.length = m.length → S M' → Fr ab M M' → K (.v (.tup [tM m, tN (numN c)])) M') :
    WO (m__law_either [st, .int (mo : Int), .int (le : Int)] M) K := by
  unfold m__law_either
  simp only [wp, wx, wf, Nat.reduceSub]
  refine (Loc.new h).w g (n := 2) (by omega) (by omega) fun r M1 hr L1 o1 => ?_
  have fin : ∀ (m : List (List Nat)) (l : Nat) (c : List Nat) (q : Nat) (M' : Mem) (ρ : Env), Mach m l → 0 < m.length → m.length ≤ mo → 0 < l → l ≤ le → c.length = m.length → M'[q]? = some (.lst (nats c)) → Loc ab S M M' →
      WO (m__law_numbered [.ref q] M') (kCons1 aNil ρ (kCons2 (tM m) (kTup (kRet (kFn M K))))) := by
    intro m l c q M' ρ hm h0 h1 hl hl2 hc hq L
    refine numbered_w hq (by omega) ?_
    simp only [wp, wx]
    exact L.kFn g (by simp) fun M1 s1 f1 => k m l c M1 hm h0 h1 hl hl2 hc s1 f1
  simp only [wp, wx, eq_int]
  by_cases h0 : (r : Int) = 0
  · simp only [h0, decide_true, wp, wx]
    refine copies_w g L1.s hmo hmo2 hle hle2 fun m l ow q M' hm hm0 hm1 hl hl2 how hk hq hqo L' => ?_
    simp only [wp, wx]
    refine fin m l ow q M' _ hm hm0 hm1 hl hl2 how hqo ⟨h, L'.s, Nat.le_trans L1.le L'.le, fun i hi hab => (L'.fr.2 i (Nat.lt_of_lt_of_le hi L1.le) hab).trans (L1.fr.2 i hi hab)⟩
  · simp only [h0, decide_false, wp, wx]
    refine mach3_w g L1.s (by omega) hmo2 hle hle2 fun m l M2 hm hm0 hm1 hl hl2 s2 f2 => ?_
    obtain ⟨L2, o2⟩ := L1.step g s2 f2
    simp only [wp, wx, len_tM]
    refine L2.w g (n := m.length) hm0 (by omega) fun fw M3 hfw L3 o3 => ?_
    have e1 : (1 : Int) + (fw : Int) = ((1 + fw : Nat) : Int) := by omega
    simp only [wp, wx, add_int, e1, src_tM]
    refine L3.wds g (n := 1 + fw) (by omega) (by omega) (fun y _ => ?_) (fun w M4 hwl hw L4 o4 => ?_)
    · simp only [wp, wx, w__law_either_E1]; exact fun M K h => h
    simp only [wp, wx]
    exact fin m l w _ _ _ hm hm0 (by omega) hl hl2 (by simpa using hwl) (get_end rfl) (L4.app g _)
/-! ### a search by a row of things, each with a label: what is met first has the least label -/
section
variable {α β : Type}
def keysB (fr : List (α × β)) : List α := fr.map (·.1)
variable [DecidableEq α]
def put1 (fr : List (α × β)) (c : α × β) : List (α × β) := if c.1 ∈ keysB fr then fr else fr ++ [c]
def addAll (fr : List (α × β)) (cs : List (α × β)) : List (α × β) := cs.foldl put1 fr
theorem put1_in {fr : List (α × β)} {c : α × β} (h : c.1 ∈ keysB fr) : put1 fr c = fr := by unfold put1; rw [if_pos h]
theorem put1_new {fr : List (α × β)} {c : α × β} (h : c.1 ∉ keysB fr) : put1 fr c = fr ++ [c] := by unfold put1; rw [if_neg h]
theorem addAll_take {fr : List (α × β)} {cs : List (α × β)} {i : Nat} (hi : i < cs.length) : addAll fr (cs.take (i + 1)) = put1 (addAll fr (cs.take i)) cs[i] := by
  unfold addAll
  rw [List.take_add_one, List.getElem?_eq_getElem hi, Option.toList_some, List.foldl_append]
  rfl
variable (nx : α × β → List (α × β)) (lt : β → β → Prop) (sd : List (α × β))
structure Rule : Prop where
  two : ∀ q q' c c', lt q.2 q'.2 → c ∈ nx q → c' ∈ nx q' → lt c.2 c'.2
  own : ∀ q, (nx q).Pairwise fun c c' => lt c.2 c'.2
  sds : ∀ s ∈ sd, ∀ q c, c ∈ nx q → lt s.2 c.2
  srt : sd.Pairwise fun c c' => lt c.2 c'.2
  nd : (keysB sd).Nodup
/-- what can be come to, by what label -/
inductive Der (nx : α × β → List (α × β)) (sd : List (α × β)) : α × β → Prop
  | sd {c : α × β} : c ∈ sd → Der nx sd c
  | go {q c : α × β} : Der nx sd q → c ∈ nx q → Der nx sd c
/-- at so many of the row are gone through -/
structure Bfs (at_ : Nat) (fr : List (α × β)) : Prop where
  nd : (keysB fr).Nodup
  srt : fr.Pairwise fun c c' => lt c.2 c'.2
  par : ∀ c ∈ fr, c ∈ sd ∨ ∃ (i : Nat) (q : α × β), i < at_ ∧ fr[i]? = some q ∧ c ∈ nx q
  seeds : ∀ c ∈ sd, c ∈ fr
  fst : ∀ (i : Nat) (q : α × β), i < at_ → fr[i]? = some q → ∀ c ∈ nx q, ∃ c1 ∈ fr, c1.1 = c.1 ∧ (c1 = c ∨ lt c1.2 c.2)
  le : at_ ≤ fr.length
  dr : ∀ c ∈ fr, Der nx sd c
theorem Bfs.init (R : Rule nx lt sd) : Bfs nx lt sd 0 sd := ⟨R.nd, R.srt, fun c h => .inl h, fun c h => h, fun i q h => by omega, Nat.zero_le _, fun c h => .sd h⟩
variable {nx lt sd}
theorem addAll_pre (fr : List (α × β)) : ∀ cs : List (α × β), ∃ e, addAll fr cs = fr ++ e ∧ ∀ c ∈ e, c ∈ cs := by
  intro cs
  induction cs generalizing fr with
  | nil => exact ⟨[], by simp [addAll], by simp⟩
  | cons c cs ih =>
    obtain ⟨e, h1, h2⟩ := ih (put1 fr c)
    have e0 : addAll fr (c :: cs) = addAll (put1 fr c) cs := rfl
    by_cases h : c.1 ∈ keysB fr
    · rw [e0, put1_in h] at *
      exact ⟨e, h1, fun x hx => by simp [h2 x hx]⟩
    · rw [put1_new h] at h1
      rw [e0, put1_new h]
      refine ⟨c :: e, by rw [h1]; simp, fun x hx => ?_⟩
      rcases List.mem_cons.mp hx with rfl | hx
      · simp
      · simp [h2 x hx]
theorem Bfs.step (R : Rule nx lt sd) {at_ : Nat} {fr : List (α × β)} (B : Bfs nx lt sd at_ fr) {q : α × β} (hq : fr[at_]? = some q) : Bfs nx lt sd (at_ + 1) (addAll fr (nx q)) := by
  have hlt : at_ < fr.length := (List.getElem?_eq_some_iff.mp hq).1
  -- what stands ahead of the round is before each candidate
  have old : ∀ c1 ∈ fr, ∀ c ∈ nx q, lt c1.2 c.2 := fun c1 h1 c hc => by
    rcases B.par c1 h1 with h | ⟨i, q1, hi, hq1, hc1⟩
    · exact R.sds c1 h q c hc
    · obtain ⟨hi1, e1⟩ := List.getElem?_eq_some_iff.mp hq1
      obtain ⟨_, e2⟩ := List.getElem?_eq_some_iff.mp hq
      have := List.pairwise_iff_getElem.mp B.srt i at_ hi1 hlt hi
      rw [e1, e2] at this
      exact R.two q1 q c1 c this hc1 hc
  -- the round
  have round : ∀ (cs done : List (α × β)) (g : List (α × β)), nx q = done ++ cs → (keysB g).Nodup → (g.Pairwise fun c c' => lt c.2 c'.2) → (∃ e, g = fr ++ e ∧ ∀ c ∈ e, c ∈ done) → (∀ c ∈ done, ∃ c1 ∈ g, c1.1 = c.1 ∧ (c1 = c ∨ lt c1.2 c.2)) →
      (keysB (addAll g cs)).Nodup ∧ ((addAll g cs).Pairwise fun c c' => lt c.2 c'.2) ∧ ∀ c ∈ nx q, ∃ c1 ∈ addAll g cs, c1.1 = c.1 ∧ (c1 = c ∨ lt c1.2 c.2) := by
    intro cs
    induction cs with
    | nil => intro done g e nd srt _ hf; rw [List.append_nil] at e; exact ⟨nd, srt, by rw [e]; exact hf⟩
    | cons c cs ih =>
      intro done g e nd srt ⟨ex, eg, hex⟩ hf
      have hcq : c ∈ nx q := by rw [e]; simp
      have before : ∀ c1 ∈ g, lt c1.2 c.2 := fun c1 h1 => by
        rw [eg] at h1
        rcases List.mem_append.mp h1 with h1 | h1
        · exact old c1 h1 c hcq
        · have := R.own q
          rw [e] at this
          exact (List.pairwise_append.mp this).2.2 c1 (hex c1 h1) c (by simp)
      show (keysB (addAll (put1 g c) cs)).Nodup ∧ _
      by_cases hk : c.1 ∈ keysB g
      · refine ih (done ++ [c]) (put1 g c) (by rw [e]; simp) (by rw [put1_in hk]; exact nd) (by rw [put1_in hk]; exact srt) ⟨ex, by rw [put1_in hk]; exact eg, fun x hx => by simp [hex x hx]⟩ (fun x hx => ?_)
        rw [put1_in hk]
        rcases List.mem_append.mp hx with hx | hx
        · exact hf x hx
        · simp at hx; subst hx
          obtain ⟨c1, h1, e1⟩ := List.mem_map.mp hk
          exact ⟨c1, h1, e1, .inr (before c1 h1)⟩
      · refine ih (done ++ [c]) (put1 g c) (by rw [e]; simp) ?_ ?_ ⟨ex ++ [c], by rw [put1_new hk, eg]; simp, fun x hx => ?_⟩ (fun x hx => ?_)
        · rw [put1_new hk]
          show (List.map _ _).Nodup
          rw [List.map_append, List.nodup_append]
          exact ⟨nd, by simp, fun a ha b hb => by simp at hb; subst hb; intro z; subst z; exact hk ha⟩
        · rw [put1_new hk, List.pairwise_append]
          exact ⟨srt, by simp, fun a ha b hb => by simp at hb; subst hb; exact before a ha⟩
        · rcases List.mem_append.mp hx with hx | hx
          · simp [hex x hx]
          · simp at hx; subst hx; simp
        · rw [put1_new hk]
          rcases List.mem_append.mp hx with hx | hx
          · obtain ⟨c1, h1, h2⟩ := hf x hx; exact ⟨c1, by simp [h1], h2⟩
          · simp at hx; subst hx; exact ⟨x, by simp, rfl, .inl rfl⟩
  obtain ⟨h1, h2, h3⟩ := round (nx q) [] fr rfl B.nd B.srt ⟨[], by simp, by simp⟩ (by simp)
  obtain ⟨e, he, hec⟩ := addAll_pre fr (nx q)
  have get : ∀ (i : Nat) (x : α × β), fr[i]? = some x → (addAll fr (nx q))[i]? = some x := fun i x hx => by
    rw [he, List.getElem?_append_left (List.getElem?_eq_some_iff.mp hx).1]; exact hx
  have gback : ∀ (i : Nat) (x : α × β), i < at_ + 1 → (addAll fr (nx q))[i]? = some x → fr[i]? = some x := fun i x hi hx => by
    rw [he, List.getElem?_append_left (by omega)] at hx; exact hx
  have sub : ∀ c ∈ fr, c ∈ addAll fr (nx q) := fun c hc => by rw [he]; simp [hc]
  refine ⟨h1, h2, fun c hc => ?_, fun c hc => sub c (B.seeds c hc), fun i q' hi hq' c hc => ?_, by rw [he]; simp; omega, fun c hc => ?_⟩
  · rw [he] at hc
    rcases List.mem_append.mp hc with hc | hc
    · rcases B.par c hc with h | ⟨i, q1, hi, hq1, hc1⟩
      · exact .inl h
      · exact .inr ⟨i, q1, by omega, get i q1 hq1, hc1⟩
    · exact .inr ⟨at_, q, by omega, get at_ q hq, hec c hc⟩
  · by_cases hia : i < at_
    · obtain ⟨c1, h4, h5⟩ := B.fst i q' hia (gback i q' hi hq') c hc
      exact ⟨c1, sub c1 h4, h5⟩
    · have : i = at_ := by omega
      subst this
      have := gback i q' hi hq'
      rw [hq] at this
      cases this
      exact h3 c hc
  · rw [he] at hc
    rcases List.mem_append.mp hc with hc | hc
    · exact B.dr c hc
    · exact .go (B.dr q (List.mem_of_getElem? hq)) (hec c hc)
theorem Bfs.least (tr : ∀ a b c, lt a b → lt b c → lt a c) (mono : ∀ (p : α) (v v' : β) (c : α × β), lt v v' → c ∈ nx (p, v') → ∃ c0 ∈ nx (p, v), c0.1 = c.1 ∧ (c0 = c ∨ lt c0.2 c.2)) {fr : List (α × β)} (B : Bfs nx lt sd fr.length fr) :
    ∀ c, Der nx sd c → ∃ c1 ∈ fr, c1.1 = c.1 ∧ (c1 = c ∨ lt c1.2 c.2) := by
  intro c d
  induction d with
  | sd h => exact ⟨_, B.seeds _ h, rfl, .inl rfl⟩
  | @go q c _ hc ih =>
    obtain ⟨q1, h1, e1, h2⟩ := ih
    obtain ⟨i, hi, eq⟩ := List.getElem_of_mem h1
    have hq1 : fr[i]? = some q1 := by rw [List.getElem?_eq_getElem hi, eq]
    rcases h2 with rfl | h2
    · exact B.fst i q1 hi hq1 c hc
    · obtain ⟨p, v⟩ := q1
      obtain ⟨p', v'⟩ := q
      simp only at e1 h2
      subst e1
      obtain ⟨c0, h3, e3, h4⟩ := mono p v v' c h2 hc
      obtain ⟨c1, h5, e5, h6⟩ := B.fst i (p, v) hi hq1 c0 h3
      refine ⟨c1, h5, e5.trans e3, ?_⟩
      rcases h6 with rfl | h6
      · rcases h4 with rfl | h4
        · exact .inl rfl
        · exact .inr h4
      · rcases h4 with rfl | h4
        · exact .inr h6
        · exact .inr (tr _ _ _ h6 h4)
end
/-! ### pairs of rooms, plain -/
theorem pw_all {α : Type} {R : α → α → Prop} (h : ∀ a b, R a b) : ∀ l : List α, l.Pairwise R
  | [] => .nil
  | a :: l => .cons (fun b _ => h a b) (pw_all h l)
abbrev P2 := Nat × Nat
def ordP (a b : Nat) : P2 := (min a b, max a b)
def behN (m : List (List Nat)) (p : P2) (a : Nat) : Option P2 := if stp m p.1 a = stp m p.2 a then none else some (ordP (stp m p.1 a) (stp m p.2 a))
def PairOk (n : Nat) (p : P2) : Prop := p.1 < p.2 ∧ p.2 < n
theorem behN_ok {m : List (List Nat)} {l : Nat} (hm : Mach m l) {p q : P2} (hp : PairOk m.length p) {a : Nat} (ha : a < l) (h : behN m p a = some q) : PairOk m.length q := by
  unfold behN at h
  split at h
  · cases h
  · rename_i hne
    cases h
    have h1 := stp_lt hm (Nat.lt_trans hp.1 hp.2) ha
    have h2 := stp_lt hm hp.2 ha
    unfold ordP PairOk
    simp only
    omega
/-- a word that leads a pair to one room -/
def Mrg (m : List (List Nat)) (w : List Nat) (p : P2) : Prop := ledN m p.1 w = ledN m p.2 w
theorem mrg_cons (m : List (List Nat)) (a : Nat) (w : List Nat) (p : P2) : Mrg m (a :: w) p ↔ match behN m p a with | none => True | some q => Mrg m w q := by
  unfold behN
  have e1 : ∀ r, ledN m r (a :: w) = ledN m (stp m r a) w := fun r => rfl
  unfold Mrg
  rw [e1, e1]
  by_cases h : stp m p.1 a = stp m p.2 a
  · rw [if_pos h, h]; simp
  · rw [if_neg h]
    simp only [ordP]
    by_cases h2 : stp m p.1 a ≤ stp m p.2 a
    · rw [Nat.min_eq_left h2, Nat.max_eq_right h2]
    · rw [Nat.min_eq_right (by omega), Nat.max_eq_left (by omega)]; exact ⟨Eq.symm, Eq.symm⟩
theorem mrg_nil {m : List (List Nat)} {n : Nat} {p : P2} (hp : PairOk n p) : ¬ Mrg m [] p := fun h => by
  have := hp.1
  simp only [Mrg, ledN_nil] at h
  omega
def prs : List Nat → List P2
  | [] => []
  | x :: S => (S.map fun y => (x, y)) ++ prs S
theorem prs_mem : ∀ {S : List Nat}, S.Pairwise (· < ·) → ∀ p : P2, p ∈ prs S ↔ p.1 ∈ S ∧ p.2 ∈ S ∧ p.1 < p.2
  | [], _, p => by simp [prs]
  | x :: S, h, p => by
    obtain ⟨h1, h2⟩ := List.pairwise_cons.mp h
    obtain ⟨a, b⟩ := p
    rw [prs, List.mem_append, prs_mem h2]
    simp only [List.mem_map, Prod.mk.injEq, List.mem_cons]
    constructor
    · rintro (⟨y, hy, rfl, rfl⟩ | ⟨h3, h4, h5⟩)
      · exact ⟨.inl rfl, .inr hy, h1 y hy⟩
      · exact ⟨.inr h3, .inr h4, h5⟩
    · rintro ⟨h3 | h3, h4 | h4, h5⟩
      · omega
      · exact .inl ⟨b, h4, h3.symm, rfl⟩
      · have := h1 a h3; omega
      · exact .inr ⟨h3, h4, h5⟩
theorem prs_nodup : ∀ {S : List Nat}, S.Pairwise (· < ·) → (prs S).Nodup
  | [], _ => by simp [prs]
  | x :: S, h => by
    obtain ⟨h1, h2⟩ := List.pairwise_cons.mp h
    rw [prs, List.nodup_append]
    refine ⟨?_, prs_nodup h2, fun a ha b hb e => ?_⟩
    · have hS : S.Nodup := h2.imp fun h => by omega
      exact List.Pairwise.map _ (fun a b hab => by simpa using hab) hS
    · subst e
      obtain ⟨y, hy, rfl⟩ := List.mem_map.mp ha
      have := ((prs_mem h2 _).mp hb).1
      have := h1 _ this
      simp only at this
      omega
theorem prs_len : ∀ S : List Nat, (prs S).length ≤ S.length * S.length
  | [] => by simp [prs]
  | x :: S => by
    have := prs_len S
    simp only [prs, List.length_append, List.length_map, List.length_cons]
    have e : (S.length + 1) * (S.length + 1) = S.length * S.length + 2 * S.length + 1 := by rw [Nat.add_mul, Nat.mul_add]; omega
    omega
def allP (m : List (List Nat)) : List P2 := prs (List.range m.length)
theorem allP_mem {m : List (List Nat)} {p : P2} : p ∈ allP m ↔ PairOk m.length p := by
  unfold allP PairOk
  rw [prs_mem List.pairwise_lt_range]
  simp only [List.mem_range]
  omega
/-- the pairs that letters lead to a pair, or to one room -/
def nbr (m : List (List Nat)) (l : Nat) (o : Option P2) : List P2 := (allP m).flatMap fun p => ((List.range l).filter fun a => decide (behN m p a = o)).map fun _ => p
theorem nbr_mem {m : List (List Nat)} {l : Nat} {o : Option P2} {p : P2} : p ∈ nbr m l o ↔ PairOk m.length p ∧ ∃ a, a < l ∧ behN m p a = o := by
  unfold nbr
  simp only [List.mem_flatMap, List.mem_map, List.mem_filter, List.mem_range, decide_eq_true_eq, allP_mem]
  constructor
  · rintro ⟨q, hq, a, ⟨h1, h2⟩, rfl⟩; exact ⟨hq, a, h1, h2⟩
  · rintro ⟨hq, a, h1, h2⟩; exact ⟨p, hq, a, ⟨h1, h2⟩, rfl⟩
def joinB (m : List (List Nat)) (l : Nat) (p : P2) : Bool := (List.range l).any fun a => decide (behN m p a = none)
theorem joinB_iff {m : List (List Nat)} {l : Nat} {p : P2} : joinB m l p = true ↔ ∃ a, a < l ∧ behN m p a = none := by
  unfold joinB
  simp [List.any_eq_true]
def lnx (m : List (List Nat)) (l : Nat) (c : P2 × Nat) : List (P2 × Nat) := (nbr m l (some c.1)).map fun p => (p, c.2 + 1)
def lsd (m : List (List Nat)) (l : Nat) : List (P2 × Nat) := ((allP m).filter (joinB m l)).map fun p => (p, 1)
theorem lrule (m : List (List Nat)) (l : Nat) : Rule (lnx m l) (· ≤ ·) (lsd m l) where
  two := fun q q' c c' h hc hc' => by
    obtain ⟨p, _, rfl⟩ := List.mem_map.mp hc
    obtain ⟨p', _, rfl⟩ := List.mem_map.mp hc'
    simp only; omega
  own := fun q => by
    unfold lnx
    rw [List.pairwise_map]
    exact pw_all (fun _ _ => Nat.le_refl _) _
  sds := fun s hs q c hc => by
    obtain ⟨p, _, rfl⟩ := List.mem_map.mp hs
    obtain ⟨p', _, rfl⟩ := List.mem_map.mp hc
    simp only; omega
  srt := by
    unfold lsd
    rw [List.pairwise_map]
    exact pw_all (fun _ _ => Nat.le_refl _) _
  nd := by
    unfold keysB lsd
    rw [List.map_map]
    have : ((fun (x : P2 × Nat) => x.1) ∘ fun p => (p, 1)) = id := rfl
    rw [this, List.map_id]
    exact (prs_nodup List.pairwise_lt_range).filter _
/-- all lengths -/
def Lens (m : List (List Nat)) (l : Nat) (fr : List (P2 × Nat)) : Prop := Bfs (lnx m l) (· ≤ ·) (lsd m l) fr.length fr
section
variable {m : List (List Nat)} {l : Nat} {fr : List (P2 × Nat)}
theorem lens_der : ∀ c : P2 × Nat, Der (lnx m l) (lsd m l) c → PairOk m.length c.1 ∧ ∃ w : List Nat, w.length = c.2 ∧ 0 < c.2 ∧ (∀ a ∈ w, a < l) ∧ Mrg m w c.1 := by
  intro c d
  induction d with
  | sd h =>
    obtain ⟨p, hp, rfl⟩ := List.mem_map.mp h
    obtain ⟨h1, h2⟩ := List.mem_filter.mp hp
    obtain ⟨a, ha, hb⟩ := joinB_iff.mp h2
    refine ⟨allP_mem.mp h1, [a], rfl, Nat.one_pos, by simpa using ha, ?_⟩
    rw [mrg_cons, hb]; trivial
  | @go q c _ hc ih =>
    obtain ⟨p, hp, rfl⟩ := List.mem_map.mp hc
    obtain ⟨h1, a, ha, hb⟩ := nbr_mem.mp hp
    obtain ⟨_, w, hw, hw0, hwl, hwm⟩ := ih
    refine ⟨h1, a :: w, by simp [hw], by simp, fun x hx => ?_, ?_⟩
    · rcases List.mem_cons.mp hx with rfl | hx
      · exact ha
      · exact hwl x hx
    · rw [mrg_cons, hb]; exact hwm
theorem der_lens (hm : Mach m l) : ∀ (w : List Nat) (p : P2), PairOk m.length p → (∀ a ∈ w, a < l) → Mrg m w p → ∃ k, k ≤ w.length ∧ Der (lnx m l) (lsd m l) (p, k)
  | [], p, hp, _, h => absurd h (mrg_nil hp)
  | a :: w, p, hp, hw, h => by
    have ha := hw a (by simp)
    rw [mrg_cons] at h
    cases hb : behN m p a with
    | none =>
      refine ⟨1, by simp, .sd (List.mem_map.mpr ⟨p, List.mem_filter.mpr ⟨allP_mem.mpr hp, joinB_iff.mpr ⟨a, ha, hb⟩⟩, rfl⟩)⟩
    | some q =>
      rw [hb] at h
      obtain ⟨k, hk, d⟩ := der_lens hm w q (behN_ok hm hp ha hb) (fun b hb => hw b (by simp [hb])) h
      exact ⟨k + 1, by simp; omega, .go d (List.mem_map.mpr ⟨p, nbr_mem.mpr ⟨hp, a, ha, hb⟩, rfl⟩)⟩
theorem Lens.word (L : Lens m l fr) {p : P2} {k : Nat} (h : (p, k) ∈ fr) : PairOk m.length p ∧ ∃ w : List Nat, w.length = k ∧ 0 < k ∧ (∀ a ∈ w, a < l) ∧ Mrg m w p := lens_der _ (L.dr _ h)
theorem Lens.uniq (L : Lens m l fr) {p : P2} {k j : Nat} (h : (p, k) ∈ fr) (h2 : (p, j) ∈ fr) : k = j := by
  obtain ⟨a, ha, e1⟩ := List.getElem_of_mem h
  obtain ⟨b, hb, e2⟩ := List.getElem_of_mem h2
  have ka : (keysB fr)[a]'(by simpa [keysB] using ha) = p := by simp [keysB, e1]
  have kb : (keysB fr)[b]'(by simpa [keysB] using hb) = p := by simp [keysB, e2]
  have := nd_inj L.nd (by simpa [keysB] using ha) (by simpa [keysB] using hb) (ka.trans kb.symm)
  subst this
  rw [e1] at e2; cases e2; rfl
theorem Lens.least (L : Lens m l fr) (hm : Mach m l) {p : P2} (hp : PairOk m.length p) {w : List Nat} (hw : ∀ a ∈ w, a < l) (h : Mrg m w p) : ∃ k, k ≤ w.length ∧ (p, k) ∈ fr := by
  obtain ⟨k, hk, d⟩ := der_lens hm w p hp hw h
  obtain ⟨⟨p1, k1⟩, h1, e1, h2⟩ := Bfs.least (lt := fun a b : Nat => a ≤ b) (nx := lnx m l) (sd := lsd m l) (fun a b c h1 h2 => Nat.le_trans h1 h2) (fun p v v' c hv hc => by
    obtain ⟨q, hq, rfl⟩ := List.mem_map.mp hc
    exact ⟨(q, v + 1), List.mem_map.mpr ⟨q, hq, rfl⟩, rfl, .inr (by simp only; omega)⟩) L (p, k) d
  simp only at e1
  subst e1
  refine ⟨k1, ?_, h1⟩
  rcases h2 with h2 | h2
  · cases h2; exact hk
  · simp only at h2; omega
/-- no shorter word -/
theorem Lens.short (L : Lens m l fr) (hm : Mach m l) {p : P2} {k : Nat} (h : (p, k) ∈ fr) {w : List Nat} (hw : ∀ a ∈ w, a < l) (hM : Mrg m w p) : k ≤ w.length := by
  obtain ⟨j, hj, h2⟩ := L.least hm (L.word h).1 hw hM
  rw [L.uniq h h2]; exact hj
def lk (fr : List (P2 × Nat)) (p : P2) : Option Nat := (fr.find? fun c => decide (c.1 = p)).map (·.2)
theorem Lens.lk_iff (L : Lens m l fr) {p : P2} {k : Nat} : lk fr p = some k ↔ (p, k) ∈ fr := by
  unfold lk
  constructor
  · intro h
    obtain ⟨⟨q, j⟩, h1, h2⟩ := Option.map_eq_some_iff.mp h
    simp only at h2
    subst h2
    have := List.find?_some h1
    simp only [decide_eq_true_eq] at this
    subst this
    exact List.mem_of_find?_eq_some h1
  · intro h
    cases hf : fr.find? (fun c => decide (c.1 = p)) with
    | none =>
      have := List.find?_eq_none.mp hf (p, k) h
      simp at this
    | some c =>
      obtain ⟨q, j⟩ := c
      have h1 := List.find?_some hf
      simp only [decide_eq_true_eq] at h1
      subst h1
      rw [Option.map_some, L.uniq (List.mem_of_find?_eq_some hf) h]
/-- the letters that lead on -/
def ldL (m : List (List Nat)) (fr : List (P2 × Nat)) (p : P2) (k a : Nat) : Bool := match behN m p a with
  | none => decide (k = 1)
  | some q => decide (lk fr q = some (k - 1)) && decide (1 ≤ k)
theorem Lens.ok (L : Lens m l fr) (hm : Mach m l) {p : P2} {k : Nat} (h : (p, k) ∈ fr) {a : Nat} (ha : a < l) {w : List Nat} (hw : ∀ b ∈ w, b < l) (hl : (a :: w).length = k) (hM : Mrg m (a :: w) p) : ldL m fr p k a = true := by
  unfold ldL
  have hM' := hM
  rw [mrg_cons] at hM
  cases hb : behN m p a with
  | none =>
    have : k ≤ 1 := by
      have := L.short hm h (w := [a]) (by simpa using ha) (by rw [mrg_cons, hb]; trivial)
      simpa using this
    simp at hl
    simp; omega
  | some q =>
    rw [hb] at hM
    simp only at hM
    have hq := behN_ok hm (L.word h).1 ha hb
    obtain ⟨j, hj, h2⟩ := L.least hm hq hw hM
    obtain ⟨_, u, hu, hu0, hul, hum⟩ := L.word h2
    have : k ≤ (a :: u).length := L.short hm h (fun x hx => by
      rcases List.mem_cons.mp hx with rfl | hx
      · exact ha
      · exact hul x hx) (by rw [mrg_cons, hb]; exact hum)
    simp at hl this
    have : j = k - 1 := by omega
    subst this
    simp only [Bool.and_eq_true, decide_eq_true_eq]
    exact ⟨L.lk_iff.mpr h2, by omega⟩
theorem Lens.okx (L : Lens m l fr) {p : P2} {k a : Nat} (hk : ldL m fr p k a = true) : (k = 1 ∧ behN m p a = none) ∨ ∃ q, behN m p a = some q ∧ (q, k - 1) ∈ fr ∧ 2 ≤ k := by
  unfold ldL at hk
  cases hb : behN m p a with
  | none => rw [hb] at hk; exact .inl ⟨by simpa using hk, rfl⟩
  | some q =>
    rw [hb] at hk
    simp only [Bool.and_eq_true, decide_eq_true_eq] at hk
    have h1 := L.lk_iff.mp hk.1
    obtain ⟨_, w, _, h0, _⟩ := L.word h1
    exact .inr ⟨q, rfl, h1, by omega⟩
def firstL (m : List (List Nat)) (l : Nat) (fr : List (P2 × Nat)) (p : P2) (k : Nat) : Nat := ((List.range l).find? fun a => ldL m fr p k a).getD 0
theorem Lens.first (L : Lens m l fr) (hm : Mach m l) {p : P2} {k : Nat} (h : (p, k) ∈ fr) : firstL m l fr p k < l ∧ ldL m fr p k (firstL m l fr p k) = true ∧ ∀ a, a < firstL m l fr p k → ldL m fr p k a = false := by
  obtain ⟨_, w, hw, h0, hwl, hwm⟩ := L.word h
  cases w with
  | nil => simp at hw; omega
  | cons a w =>
    have hok := L.ok hm h (hwl a (by simp)) (fun b hb => hwl b (by simp [hb])) hw hwm
    unfold firstL
    cases hf : (List.range l).find? (fun a => ldL m fr p k a) with
    | none =>
      have := List.find?_eq_none.mp hf a (by simpa using hwl a (by simp))
      rw [hok] at this; exact absurd rfl this
    | some b =>
      rw [Option.getD_some]
      have h1 := List.find?_some hf
      refine ⟨by simpa using List.mem_of_find?_eq_some hf, h1, fun c hc => ?_⟩
      obtain ⟨_, as, bs, e, h3⟩ := List.find?_eq_some_iff_append.mp hf
      have hbm : b < l := by simpa using List.mem_of_find?_eq_some hf
      have : c ∈ as := by
        have hcl : c ∈ List.range l := by simp; omega
        rw [e] at hcl
        rcases List.mem_append.mp hcl with z | z
        · exact z
        · exfalso
          have hp := List.pairwise_lt_range (n := l)
          rw [e] at hp
          have hp2 := (List.pairwise_append.mp hp).2.1
          rcases List.mem_cons.mp z with z | z
          · omega
          · have := (List.pairwise_cons.mp hp2).1 c z; omega
      have := h3 c this
      simpa using this
/-- the first of the shortest words -/
def wdN (m : List (List Nat)) (l : Nat) (fr : List (P2 × Nat)) : Nat → P2 → List Nat
  | 0, _ => []
  | k + 1, p => firstL m l fr p (k + 1) :: match behN m p (firstL m l fr p (k + 1)) with
    | none => []
    | some q => wdN m l fr k q
def lexLe : List Nat → List Nat → Prop
  | [], _ => True
  | _ :: _, [] => False
  | a :: u, b :: v => a < b ∨ a = b ∧ lexLe u v
theorem lexLe_refl : ∀ u : List Nat, lexLe u u
  | [] => trivial
  | a :: u => .inr ⟨rfl, lexLe_refl u⟩
theorem lexLe_anti : ∀ {u v : List Nat}, u.length = v.length → lexLe u v → lexLe v u → u = v
  | [], [], _, _, _ => rfl
  | a :: u, b :: v, hl, h1, h2 => by
    rcases h1 with h1 | ⟨h1, h3⟩
    · rcases h2 with h2 | ⟨h2, _⟩ <;> omega
    · subst h1
      rcases h2 with h2 | ⟨_, h4⟩
      · omega
      · rw [lexLe_anti (by simpa using hl) h3 h4]
  | [], _ :: _, hl, _, _ => by simp at hl
  | _ :: _, [], hl, _, _ => by simp at hl
/-- the first shortest word that leads a pair to one room -/
structure Fst (m : List (List Nat)) (l : Nat) (p : P2) (w : List Nat) : Prop where
  ok : ∀ a ∈ w, a < l
  mrg : Mrg m w p
  least : ∀ u : List Nat, (∀ a ∈ u, a < l) → Mrg m u p → w.length < u.length ∨ w.length = u.length ∧ lexLe w u
theorem Fst.uniq {p : P2} {w v : List Nat} (h : Fst m l p w) (h2 : Fst m l p v) : w = v := by
  rcases h.least v h2.ok h2.mrg with a | ⟨a, b⟩
  · rcases h2.least w h.ok h.mrg with c | ⟨c, _⟩ <;> omega
  · rcases h2.least w h.ok h.mrg with c | ⟨_, d⟩
    · omega
    · exact lexLe_anti a b d
theorem Lens.wd (L : Lens m l fr) (hm : Mach m l) : ∀ (k : Nat) (p : P2), (p, k) ∈ fr → (wdN m l fr k p).length = k ∧ Fst m l p (wdN m l fr k p)
  | 0, p, h => by obtain ⟨_, _, _, h0, _⟩ := L.word h; omega
  | k + 1, p, h => by
    obtain ⟨h1, h2, h3⟩ := L.first hm h
    have hp := (L.word h).1
    unfold wdN
    generalize hA : firstL m l fr p (k + 1) = a at h1 h2 h3
    have low : ∀ (b : Nat) (u : List Nat), (∀ x ∈ b :: u, x < l) → Mrg m (b :: u) p → (b :: u).length = k + 1 → a ≤ b := fun b u hu hM hl => by
      by_cases hab : a ≤ b
      · exact hab
      · have := L.ok hm h (hu b (by simp)) (fun x hx => hu x (by simp [hx])) hl hM
        rw [h3 b (by omega)] at this; cases this
    rcases L.okx h2 with ⟨hk, hb⟩ | ⟨q, hb, hq, hk⟩
    · rw [hb]
      simp only
      have hk0 : k = 0 := by omega
      subst hk0
      refine ⟨rfl, by simpa using h1, by rw [mrg_cons, hb]; trivial, fun u hu hM => ?_⟩
      cases u with
      | nil => exact absurd hM (mrg_nil hp)
      | cons b u =>
        by_cases hu0 : u = []
        · subst hu0
          right
          refine ⟨rfl, ?_⟩
          have := low b [] hu hM rfl
          rcases Nat.lt_or_eq_of_le this with z | z
          · exact .inl z
          · exact .inr ⟨z, trivial⟩
        · left
          cases u with
          | nil => exact absurd rfl hu0
          | cons c u => simp
    · have e : k + 1 - 1 = k := by omega
      rw [e] at hq
      obtain ⟨h4, h5⟩ := L.wd hm k q hq
      rw [hb]
      simp only
      refine ⟨by simp [h4], fun x hx => ?_, by rw [mrg_cons, hb]; exact h5.mrg, fun u hu hM => ?_⟩
      · rcases List.mem_cons.mp hx with rfl | hx
        · exact h1
        · exact h5.ok x hx
      · cases u with
        | nil => exact absurd hM (mrg_nil hp)
        | cons b u =>
          have hs := L.short hm h hu hM
          rcases Nat.lt_or_eq_of_le hs with z | z
          · left; simp [h4] at z ⊢; omega
          · right
            refine ⟨by simp [h4] at z ⊢; omega, ?_⟩
            have := low b u hu hM z.symm
            rcases Nat.lt_or_eq_of_le this with z2 | z2
            · exact .inl z2
            · subst z2
              refine .inr ⟨rfl, ?_⟩
              rw [mrg_cons, hb] at hM
              rcases h5.least u (fun x hx => hu x (by simp [hx])) hM with z3 | ⟨_, z3⟩
              · rw [h4] at z3; simp at z; omega
              · exact z3
end
def behL (m : List (List Nat)) (p : P2) (a : Nat) : P2 := ordP (stp m p.1 a) (stp m p.2 a)
theorem behL_none {m : List (List Nat)} {p : P2} {a : Nat} : behN m p a = none ↔ (behL m p a).1 = (behL m p a).2 := by
  unfold behN behL ordP
  simp only
  split
  · rename_i h; rw [h]; simp
  · rename_i h; simp; omega
theorem behL_some {m : List (List Nat)} {p : P2} {a : Nat} (h : behN m p a ≠ none) : behN m p a = some (behL m p a) ∧ (behL m p a).1 < (behL m p a).2 := by
  unfold behN behL ordP at *
  split at h
  · exact absurd rfl h
  · rename_i hne; rw [if_neg hne]; exact ⟨rfl, by simp only; omega⟩
/-! ### kept partings and folded machines, plain -/
def Kpt (m : List (List Nat)) (l : Nat) (f : Nat → Nat) : Prop := ∀ x y a, x < m.length → y < m.length → a < l → f x = f y → f (stp m x a) = f (stp m y a)
def Agr (n : Nat) (c : List Nat) (f : Nat → Nat) : Prop := ∀ x y, x < n → y < n → c.getD x 0 = c.getD y 0 → f x = f y
def Tog (ps : List P2) (f : Nat → Nat) : Prop := ∀ p ∈ ps, f p.1 = f p.2
structure KB (m : List (List Nat)) (l : Nat) (ps : List P2) (c : List Nat) (ws : List P2) : Prop where
  len : c.length = m.length
  vals : ∀ v ∈ c, v < m.length
  wok : ∀ p ∈ ws, p.1 < m.length ∧ p.2 < m.length
  step : ∀ f, Agr m.length c f → Tog ws f → ∀ x y a, x < m.length → y < m.length → a < l → c.getD x 0 = c.getD y 0 → f (stp m x a) = f (stp m y a)
  init : ∀ f, Agr m.length c f → Tog ws f → Tog ps f
  least : ∀ g, Kpt m l g → Tog ps g → Agr m.length c g ∧ Tog ws g
theorem range_getD {n x : Nat} (h : x < n) : (List.range n).getD x 0 = x := by simp [List.getD, h]
section
variable {m : List (List Nat)} {l : Nat} {ps ws : List P2} {c : List Nat}
theorem KB.start (hp : ∀ p ∈ ps, p.1 < m.length ∧ p.2 < m.length) : KB m l ps (List.range m.length) ps where
  len := by simp
  vals := fun v hv => List.mem_range.mp hv
  wok := hp
  step := fun f _ _ x y a hx hy _ e => by rw [range_getD hx, range_getD hy] at e; rw [e]
  init := fun f _ h => h
  least := fun g _ h => ⟨fun x y hx hy e => by rw [range_getD hx, range_getD hy] at e; rw [e], h⟩
theorem KB.same {p : P2} (h : KB m l ps c (ws ++ [p])) (e : c.getD p.1 0 = c.getD p.2 0) : KB m l ps c ws := by
  have hp := h.wok p (by simp)
  have tg : ∀ f, Agr m.length c f → Tog ws f → Tog (ws ++ [p]) f := fun f ha ht q hq => by
    rcases List.mem_append.mp hq with hq | hq
    · exact ht q hq
    · simp at hq; subst hq; exact ha _ _ hp.1 hp.2 e
  exact ⟨h.len, h.vals, fun q hq => h.wok q (by simp [hq]), fun f ha ht => h.step f ha (tg f ha ht), fun f ha ht => h.init f ha (tg f ha ht), fun g hk ht => ⟨(h.least g hk ht).1, fun q hq => (h.least g hk ht).2 q (by simp [hq])⟩⟩
def mrgC (c : List Nat) (p : P2) : List Nat := c.map fun o => if o = c.getD p.2 0 then c.getD p.1 0 else o
def lets (m : List (List Nat)) (l : Nat) (p : P2) : List P2 := (List.range l).map fun a => (stp m p.1 a, stp m p.2 a)
theorem mrgC_get {p : P2} {x : Nat} (hx : x < c.length) : (mrgC c p).getD x 0 = if c.getD x 0 = c.getD p.2 0 then c.getD p.1 0 else c.getD x 0 := by
  have e : c.getD x 0 = c[x] := by simp [List.getD, hx]
  rw [e]
  unfold mrgC
  rw [List.getD_eq_getElem?_getD, List.getElem?_map, List.getElem?_eq_getElem hx]
  rfl
theorem mrgC_eq {p : P2} (hp : p.1 < c.length ∧ p.2 < c.length) {x y : Nat} (hx : x < c.length) (hy : y < c.length) (e : (mrgC c p).getD x 0 = (mrgC c p).getD y 0) : c.getD x 0 = c.getD y 0 ∨ (c.getD x 0 = c.getD p.2 0 ∧ c.getD y 0 = c.getD p.1 0) ∨ (c.getD x 0 = c.getD p.1 0 ∧ c.getD y 0 = c.getD p.2 0) := by
  rw [mrgC_get hx, mrgC_get hy] at e
  by_cases h1 : c.getD x 0 = c.getD p.2 0 <;> by_cases h2 : c.getD y 0 = c.getD p.2 0
  · exact .inl (h1.trans h2.symm)
  · rw [if_pos h1, if_neg h2] at e; exact .inr (.inl ⟨h1, e.symm⟩)
  · rw [if_neg h1, if_pos h2] at e; exact .inr (.inr ⟨e, h2⟩)
  · rw [if_neg h1, if_neg h2] at e; exact .inl e
theorem KB.merge {p : P2} (hm : Mach m l) (h : KB m l ps c (ws ++ [p])) : KB m l ps (mrgC c p) (ws ++ lets m l p) := by
  have hp := h.wok p (by simp)
  have hl := h.len
  have hpc : p.1 < c.length ∧ p.2 < c.length := by rw [hl]; exact hp
  have ag : ∀ f, Agr m.length (mrgC c p) f → Agr m.length c f := fun f ha x y hx hy e => ha x y hx hy (by rw [mrgC_get (by omega), mrgC_get (by omega), e])
  have tg : ∀ f, Agr m.length (mrgC c p) f → Tog (ws ++ lets m l p) f → Tog (ws ++ [p]) f := fun f ha ht q hq => by
    rcases List.mem_append.mp hq with hq | hq
    · exact ht q (by simp [hq])
    · simp at hq; subst hq
      refine ha _ _ hp.1 hp.2 ?_
      rw [mrgC_get hpc.1, mrgC_get hpc.2]
      by_cases e : c.getD q.1 0 = c.getD q.2 0
      · simp [e]
      · simp [e]
  refine ⟨by simp [mrgC, hl], fun v hv => ?_, fun q hq => ?_, fun f ha ht x y a hx hy hal e => ?_, fun f ha ht => h.init f (ag f ha) (tg f ha ht), fun g hk ht => ?_⟩
  · obtain ⟨o, ho, rfl⟩ := List.mem_map.mp hv
    split
    · refine h.vals _ ?_
      rw [show c.getD p.1 0 = c[p.1]'hpc.1 by simp [List.getD, hpc.1]]
      exact List.getElem_mem _
    · exact h.vals _ ho
  · rcases List.mem_append.mp hq with hq | hq
    · exact h.wok q (by simp [hq])
    · obtain ⟨a, ha, rfl⟩ := List.mem_map.mp hq
      have ha' := List.mem_range.mp ha
      exact ⟨stp_lt hm hp.1 ha', stp_lt hm hp.2 ha'⟩
  · have S := h.step f (ag f ha) (tg f ha ht)
    have hpa : f (stp m p.1 a) = f (stp m p.2 a) := ht (stp m p.1 a, stp m p.2 a) (List.mem_append.mpr (.inr (List.mem_map.mpr ⟨a, List.mem_range.mpr hal, rfl⟩)))
    rcases mrgC_eq hpc (by omega) (by omega) e with e | ⟨e1, e2⟩ | ⟨e1, e2⟩
    · exact S x y a hx hy hal e
    · rw [S x p.2 a hx hp.2 hal e1, ← hpa, S y p.1 a hy hp.1 hal e2]
    · rw [S x p.1 a hx hp.1 hal e1, hpa, S y p.2 a hy hp.2 hal e2]
  · obtain ⟨h1, h2⟩ := h.least g hk ht
    have hg : g p.1 = g p.2 := h2 p (by simp)
    refine ⟨fun x y hx hy e => ?_, fun q hq => ?_⟩
    · rcases mrgC_eq hpc (by omega) (by omega) e with e | ⟨e1, e2⟩ | ⟨e1, e2⟩
      · exact h1 x y hx hy e
      · rw [h1 x p.2 hx hp.2 e1, ← hg, h1 y p.1 hy hp.1 e2]
      · rw [h1 x p.1 hx hp.1 e1, hg, h1 y p.2 hy hp.2 e2]
    · rcases List.mem_append.mp hq with hq | hq
      · exact h2 q (by simp [hq])
      · obtain ⟨a, ha, rfl⟩ := List.mem_map.mp hq
        exact hk _ _ a hp.1 hp.2 (List.mem_range.mp ha) hg
theorem KB.kept (h : KB m l ps c []) : Kpt m l (fun x => c.getD x 0) := fun x y a hx hy ha e => h.step (fun x => c.getD x 0) (fun _ _ _ _ e => e) (fun p hp => by simp at hp) x y a hx hy ha e
theorem KB.tog (h : KB m l ps c []) : Tog ps (fun x => c.getD x 0) := h.init _ (fun _ _ _ _ e => e) (fun p hp => by simp at hp)
def dist (n : Nat) (c : List Nat) : Nat := ((List.range n).filter fun v => decide (v ∈ c)).length
theorem dist_le (n : Nat) (c : List Nat) : dist n c ≤ n := by
  have := List.length_filter_le (fun v => decide (v ∈ c)) (List.range n)
  simpa [dist] using this
theorem flt_le {p q : Nat → Bool} : ∀ (xs : List Nat), (∀ x ∈ xs, q x = true → p x = true) → (xs.filter q).length ≤ (xs.filter p).length
  | [], _ => by simp
  | x :: xs, h => by
    have ih := flt_le xs fun y hy => h y (by simp [hy])
    have hx := h x (by simp)
    cases hq : q x with
    | true => rw [List.filter_cons_of_pos hq, List.filter_cons_of_pos (hx hq)]; simp; exact ih
    | false =>
      rw [List.filter_cons_of_neg (by simp [hq])]
      cases hpx : p x with
      | true => rw [List.filter_cons_of_pos hpx]; simp; omega
      | false => rw [List.filter_cons_of_neg (by simp [hpx])]; exact ih
theorem flt_lt {p q : Nat → Bool} : ∀ (xs : List Nat), (∀ x ∈ xs, q x = true → p x = true) → (∃ x ∈ xs, p x = true ∧ q x = false) → (xs.filter q).length < (xs.filter p).length
  | [], _, ⟨x, hx, _⟩ => by simp at hx
  | x :: xs, h, ⟨y, hy, h1, h2⟩ => by
    have hle := flt_le xs fun y hy => h y (by simp [hy])
    by_cases e : y = x
    · subst e
      rw [List.filter_cons_of_pos h1, List.filter_cons_of_neg (by simp [h2])]
      simp; omega
    · have hy' : y ∈ xs := by rcases List.mem_cons.mp hy with z | z; exact absurd z e; exact z
      have ih := flt_lt xs (fun y hy => h y (by simp [hy])) ⟨y, hy', h1, h2⟩
      have hx := h x (by simp)
      cases hq : q x with
      | true => rw [List.filter_cons_of_pos hq, List.filter_cons_of_pos (hx hq)]; simp; exact ih
      | false =>
        rw [List.filter_cons_of_neg (by simp [hq])]
        cases hpx : p x with
        | true => rw [List.filter_cons_of_pos hpx]; simp; omega
        | false => rw [List.filter_cons_of_neg (by simp [hpx])]; exact ih
theorem dist_merge {n : Nat} {p : P2} (hc : c.length = n) (hv : ∀ v ∈ c, v < n) (hp : p.1 < n ∧ p.2 < n) (hne : c.getD p.1 0 ≠ c.getD p.2 0) : dist n (mrgC c p) < dist n c := by
  have m1 : c.getD p.1 0 ∈ c := by rw [show c.getD p.1 0 = c[p.1]'(by omega) by simp [List.getD, show p.1 < c.length by omega]]; exact List.getElem_mem _
  have m2 : c.getD p.2 0 ∈ c := by rw [show c.getD p.2 0 = c[p.2]'(by omega) by simp [List.getD, show p.2 < c.length by omega]]; exact List.getElem_mem _
  refine flt_lt _ (fun x _ hx => ?_) ⟨c.getD p.2 0, List.mem_range.mpr (hv _ m2), decide_eq_true m2, ?_⟩
  · simp only [decide_eq_true_eq] at hx ⊢
    obtain ⟨o, ho, rfl⟩ := List.mem_map.mp hx
    split
    · exact m1
    · exact ho
  · simp only [decide_eq_false_iff_not]
    intro hx
    obtain ⟨o, ho, e⟩ := List.mem_map.mp hx
    by_cases h : o = c.getD p.2 0
    · rw [if_pos h] at e; exact hne e
    · rw [if_neg h] at e; exact h e
end
/-- two lists that part alike are numbered alike -/
theorem firstsN_map (f : Nat → Nat) : ∀ c : List Nat, (∀ x ∈ c, ∀ y ∈ c, f x = f y → x = y) → firstsN (c.map f) = (firstsN c).map f := by
  intro c
  induction c using snocRec with
  | nil => intro _; rfl
  | snoc c x ih =>
    intro h
    have ih := ih fun a ha b hb => h a (by simp [ha]) b (by simp [hb])
    rw [List.map_append, List.map_cons, List.map_nil, firstsN_snoc, firstsN_snoc, ih]
    have : f x ∈ (firstsN c).map f ↔ x ∈ firstsN c := by
      constructor
      · intro hx
        obtain ⟨y, hy, e⟩ := List.mem_map.mp hx
        have hyc := ((firstsN_mem c).1 y).mp hy
        rw [← h y (by simp [hyc]) x (by simp) e]; exact hy
      · exact fun hx => List.mem_map.mpr ⟨x, hx, rfl⟩
    by_cases hx : x ∈ firstsN c
    · rw [if_pos hx, if_pos (this.mpr hx)]
    · rw [if_neg hx, if_neg (fun z => hx (this.mp z))]; simp
theorem numN_map (f : Nat → Nat) (c : List Nat) (h : ∀ x ∈ c, ∀ y ∈ c, f x = f y → x = y) : numN (c.map f) = numN c := by
  unfold numN
  rw [firstsN_map f c h, List.map_map]
  refine List.map_congr_left fun x hx => ?_
  show ((firstsN c).map f).idxOf (f x) = (firstsN c).idxOf x
  have hsub : ∀ y ∈ firstsN c, y ∈ c := fun y hy => ((firstsN_mem c).1 y).mp hy
  generalize firstsN c = L at hsub
  induction L with
  | nil => rfl
  | cons y L ih =>
    have ih := ih fun z hz => hsub z (by simp [hz])
    rw [List.map_cons, List.idxOf_cons, List.idxOf_cons, ih]
    by_cases e : y = x
    · subst e; simp
    · have : ¬ f y = f x := fun z => e (h y (hsub y (by simp)) x hx z)
      have e1 : (f y == f x) = false := beq_false_of_ne this
      have e2 : (y == x) = false := beq_false_of_ne e
      rw [e1, e2]
theorem numN_alike {c d : List Nat} (hl : c.length = d.length) (h : ∀ x y, x < c.length → y < c.length → (c.getD x 0 = c.getD y 0 ↔ d.getD x 0 = d.getD y 0)) : numN c = numN d := by
  have e : d = c.map fun v => d.getD (c.idxOf v) 0 := by
    apply List.ext_getElem
    · simp [hl]
    · intro i h1 h2
      have hi : i < c.length := by omega
      have hj : c.idxOf c[i] < c.length := List.idxOf_lt_length_of_mem (List.getElem_mem hi)
      have := (h (c.idxOf c[i]) i hj hi).mp (by simp [List.getD, hi, hj])
      simp only [List.getElem_map]
      rw [this]
      simp [List.getD, h1]
  rw [e]
  symm
  refine numN_map _ _ fun x hx y hy e2 => ?_
  obtain ⟨i, hi, rfl⟩ := List.getElem_of_mem hx
  obtain ⟨j, hj, rfl⟩ := List.getElem_of_mem hy
  have hi' := List.idxOf_lt_length_of_mem (List.getElem_mem hi)
  have hj' := List.idxOf_lt_length_of_mem (List.getElem_mem hj)
  have := (h _ _ hi' hj').mpr e2
  simpa [List.getD, hi', hj'] using this
theorem KB.uniq {m : List (List Nat)} {l : Nat} {ps : List P2} {c d : List Nat} (h : KB m l ps c []) (k : KB m l ps d []) : numN c = numN d := by
  have hl : c.length = d.length := by rw [h.len, k.len]
  refine numN_alike hl fun x y hx hy => ?_
  have hx' : x < m.length := by have := h.len; omega
  have hy' : y < m.length := by have := h.len; omega
  exact ⟨(h.least _ k.kept k.tog).1 x y hx' hy', (k.least _ h.kept h.tog).1 x y hx' hy'⟩
/-! folding -/
structure Prtn (n : Nat) (c : List Nat) (k : Nat) : Prop where
  len : c.length = n
  val : ∀ v, v ∈ c ↔ v < k
  le : k ≤ n
theorem numN_prtn (c : List Nat) : Prtn c.length (numN c) (firstsN c).length where
  len := numN_len c
  le := (firstsN_mem c).2.1
  val := fun v => by
    have h := firstsN_mem c
    constructor
    · intro hv
      obtain ⟨x, hx, rfl⟩ := List.mem_map.mp hv
      exact List.idxOf_lt_length_of_mem ((h.1 x).mpr hx)
    · intro hv
      refine List.mem_map.mpr ⟨(firstsN c)[v], (h.1 _).mp (List.getElem_mem hv), ?_⟩
      exact h.2.2.idxOf_getElem v hv
def foldM (m : List (List Nat)) (c : List Nat) (k : Nat) : List (List Nat) := (List.range k).map fun o => (m.getD (c.idxOf o) []).map fun g => c.getD g 0
section
variable {m : List (List Nat)} {l : Nat} {c : List Nat} {k : Nat}
theorem foldM_len : (foldM m c k).length = k := by simp [foldM]
theorem Prtn.lt (P : Prtn m.length c k) {r : Nat} (hr : r < m.length) : c.getD r 0 < k := by
  have hr' : r < c.length := by rw [P.len]; exact hr
  rw [show c.getD r 0 = c[r] by simp [List.getD, hr']]
  exact (P.val _).mp (List.getElem_mem hr')
theorem Prtn.ix (P : Prtn m.length c k) {o : Nat} (ho : o < k) : c.idxOf o < m.length ∧ c.getD (c.idxOf o) 0 = o := by
  have h := List.idxOf_lt_length_of_mem ((P.val o).mpr ho)
  refine ⟨by rw [← P.len]; exact h, ?_⟩
  simp [List.getD, h]
theorem foldM_mach (hm : Mach m l) (P : Prtn m.length c k) : Mach (foldM m c k) l := by
  constructor
  · intro row hr
    obtain ⟨o, ho, rfl⟩ := List.mem_map.mp hr
    have hi := (P.ix (List.mem_range.mp ho)).1
    rw [List.length_map, show m.getD (c.idxOf o) [] = m[c.idxOf o] by simp [List.getD, hi]]
    exact hm.row hi
  · intro row hr r hrr
    obtain ⟨o, ho, rfl⟩ := List.mem_map.mp hr
    obtain ⟨g, hg, rfl⟩ := List.mem_map.mp hrr
    have hi := (P.ix (List.mem_range.mp ho)).1
    rw [show m.getD (c.idxOf o) [] = m[c.idxOf o] by simp [List.getD, hi]] at hg
    rw [foldM_len]
    exact P.lt (hm.lt _ (List.getElem_mem hi) _ hg)
theorem foldM_stp (hm : Mach m l) (P : Prtn m.length c k) (hk : Kpt m l fun x => c.getD x 0) {r a : Nat} (hr : r < m.length) (ha : a < l) : stp (foldM m c k) (c.getD r 0) a = c.getD (stp m r a) 0 := by
  have hv := P.lt hr
  have hx := P.ix hv
  have hrow := hm.row hx.1
  have hxr : c.getD (c.idxOf (c.getD r 0)) 0 = c.getD r 0 := hx.2
  have hx1 := hx.1
  have key : ∀ v, v < k → ∀ (h1 : c.idxOf v < m.length), stp (foldM m c k) v a = c.getD (stp m (c.idxOf v) a) 0 := by
    intro v hv h1
    have e3 : m.getD (c.idxOf v) [] = m[c.idxOf v] := by simp [List.getD, h1]
    have e2 : (foldM m c k).getD v [] = m[c.idxOf v].map fun g => c.getD g 0 := by
      unfold foldM
      rw [List.getD_eq_getElem?_getD, List.getElem?_map, List.getElem?_range hv]
      show (m.getD (c.idxOf v) []).map _ = _
      rw [e3]
    have ha' : a < m[c.idxOf v].length := by rw [hm.row h1]; exact ha
    unfold stp
    rw [e2, e3, List.getD_eq_getElem?_getD, List.getElem?_map, List.getElem?_eq_getElem ha', List.getD_eq_getElem?_getD (l := m[c.idxOf v]), List.getElem?_eq_getElem ha']
    rfl
  rw [key _ hv hx1]
  exact hk _ _ a hx.1 hr ha hx.2
theorem foldM_led (hm : Mach m l) (P : Prtn m.length c k) (hk : Kpt m l fun x => c.getD x 0) : ∀ (w : List Nat) (r : Nat), r < m.length → (∀ a ∈ w, a < l) → ledN (foldM m c k) (c.getD r 0) w = c.getD (ledN m r w) 0
  | [], r, _, _ => rfl
  | a :: w, r, hr, hw => by
    have ha := hw a (by simp)
    show ledN (foldM m c k) (stp (foldM m c k) (c.getD r 0) a) w = c.getD (ledN m (stp m r a) w) 0
    rw [foldM_stp hm P hk hr ha]
    exact foldM_led hm P hk w _ (stp_lt hm hr ha) fun b hb => hw b (by simp [hb])
end
theorem argBest_least {bt : Nat → Nat → Bool} (irr : ∀ i, bt i i = false) (tr : ∀ i j k, bt i j = true → bt j k = true → bt i k = true) : ∀ n, argBest bt n ≤ n ∧ ∀ i, i ≤ n → bt i (argBest bt n) = false := by
  intro n
  induction n with
  | zero => exact ⟨Nat.le_refl _, fun i hi => by have : i = 0 := by omega
                                                 subst this; exact irr _⟩
  | succ n ih =>
    obtain ⟨h1, h2⟩ := ih
    unfold argBest
    split
    · rename_i hb
      refine ⟨Nat.le_refl _, fun i hi => ?_⟩
      cases e : bt i (n + 1) with
      | false => rfl
      | true =>
        by_cases h : i = n + 1
        · subst h; rw [irr] at e; cases e
        · have := h2 i (by omega)
          rw [tr _ _ _ e hb] at this
          cases this
    · rename_i hb
      refine ⟨by omega, fun i hi => ?_⟩
      by_cases h : i = n + 1
      · subst h; simpa using hb
      · exact h2 i (by omega)
theorem pdL_map {α : Type} (f : α → D) : ∀ xs : List α, pdL (xs.map f) = xs.map fun x => (f x).pd
  | [] => rfl
  | x :: xs => by simp [pdL, pdL_map f xs]
theorem okL_map {α : Type} {n : Nat} (f : α → D) (h : ∀ x, okD n (f x) = true) : ∀ xs : List α, okL n (xs.map f) = true
  | [] => by simp [okL]
  | x :: xs => by rw [List.map_cons, okL, h, okL_map f h xs]; rfl
/-- a kind of data that can be put in order -/
structure Ordd {α : Type} (f : α → D) (lt : α → α → Prop) [DecidableRel lt] : Prop where
  pd : ∀ a b, PySem.W.dataLt (f a).pd (f b).pd = decide (lt a b)
  al : ∀ a b, PySem.W.alike (f a).pd (f b).pd = true
  ok : ∀ a, okD 60 (f a) = true
  nn : ∀ a, (f a).pd ≠ .none
  irr : ∀ a, ¬ lt a a
  tr : ∀ a b c, lt a b → lt b c → lt a c
theorem Ordd.cond {α : Type} {f : α → D} {lt : α → α → Prop} [DecidableRel lt] (O : Ordd f lt) {xs : List α} (hne : xs ≠ []) : okL 60 (xs.map f) = true ∧ xs.map f ≠ [] ∧ (∀ d ∈ pdL (xs.map f), ∀ e ∈ pdL (xs.map f), PySem.W.alike d e = true) ∧ (∀ d ∈ pdL (xs.map f), d ≠ .none) := by
  refine ⟨okL_map f O.ok xs, by simpa using hne, fun d hd e he => ?_, fun d hd => ?_⟩
  · rw [pdL_map] at hd he
    obtain ⟨a, _, rfl⟩ := List.mem_map.mp hd
    obtain ⟨b, _, rfl⟩ := List.mem_map.mp he
    exact O.al a b
  · rw [pdL_map] at hd
    obtain ⟨a, _, rfl⟩ := List.mem_map.mp hd
    exact O.nn a
theorem min1_of {α : Type} {f : α → D} {lt : α → α → Prop} [DecidableRel lt] (O : Ordd f lt) {xs : List α} (hne : xs ≠ []) {x : Out} {M : Mem} (hx : seqOf x M = some (xs.map f)) : ∃ a ∈ xs, (∀ b ∈ xs, ¬ lt b a) ∧ min1F x M = some (.v (f a), M) := by
  have hlen : 0 < xs.length := List.length_pos_iff.mpr hne
  have hget : ∀ i (h : i < xs.length), (pdL (xs.map f)).getD i .none = (f xs[i]).pd := fun i h => by
    rw [pdL_map, List.getD_eq_getElem?_getD, List.getElem?_map, List.getElem?_eq_getElem h]; rfl
  have key : ∀ n, n < xs.length → ∃ j, ∃ hj : j < xs.length, argBest (btmin (pdL (xs.map f))) n = j ∧ ∀ i (hi : i < xs.length), i ≤ n → ¬ lt xs[i] xs[j] := by
    intro n
    induction n with
    | zero => exact fun h => ⟨0, h, rfl, fun i hi h0 => by have : i = 0 := by omega
                                                           subst this; exact O.irr _⟩
    | succ n ih =>
      intro h
      obtain ⟨j, hj, e, hl⟩ := ih (by omega)
      have eb : btmin (pdL (xs.map f)) (n + 1) j = decide (lt xs[n + 1] xs[j]) := by
        unfold btmin; rw [hget _ h, hget _ hj, O.pd]
      unfold argBest
      rw [e, eb]
      by_cases hlt : lt xs[n + 1] xs[j]
      · refine ⟨n + 1, h, by simp [hlt], fun i hi hin hlt2 => ?_⟩
        by_cases hi2 : i = n + 1
        · subst hi2; exact O.irr _ hlt2
        · exact hl i hi (by omega) (O.tr _ _ _ hlt2 hlt)
      · refine ⟨j, hj, by simp [hlt], fun i hi hin hlt2 => ?_⟩
        by_cases hi2 : i = n + 1
        · subst hi2; exact hlt hlt2
        · exact hl i hi (by omega) hlt2
  obtain ⟨j, hj, e, hl⟩ := key (xs.length - 1) (by omega)
  refine ⟨xs[j], List.getElem_mem hj, fun b hb => ?_, ?_⟩
  · obtain ⟨i, hi, rfl⟩ := List.getElem_of_mem hb
    exact hl i hi (by omega)
  · unfold min1F
    rw [hx, Option.bind_some, if_pos (O.cond hne)]
    have : minI0 (pdL (xs.map f)) = j := by
      unfold minI0
      rw [pdL_map, List.length_map, ← pdL_map]
      exact e
    rw [this, List.getElem?_map, List.getElem?_eq_getElem hj]; rfl
theorem max1_of {α : Type} {f : α → D} {lt : α → α → Prop} [DecidableRel lt] (O : Ordd f lt) {xs : List α} (hne : xs ≠ []) {x : Out} {M : Mem} (hx : seqOf x M = some (xs.map f)) : ∃ a ∈ xs, (∀ b ∈ xs, ¬ lt a b) ∧ max1F x M = some (.v (f a), M) := by
  have hlen : 0 < xs.length := List.length_pos_iff.mpr hne
  have hget : ∀ i (h : i < xs.length), (pdL (xs.map f)).getD i .none = (f xs[i]).pd := fun i h => by
    rw [pdL_map, List.getD_eq_getElem?_getD, List.getElem?_map, List.getElem?_eq_getElem h]; rfl
  have key : ∀ n, n < xs.length → ∃ j, ∃ hj : j < xs.length, argBest (btmax (pdL (xs.map f))) n = j ∧ ∀ i (hi : i < xs.length), i ≤ n → ¬ lt xs[j] xs[i] := by
    intro n
    induction n with
    | zero => exact fun h => ⟨0, h, rfl, fun i hi h0 => by have : i = 0 := by omega
                                                           subst this; exact O.irr _⟩
    | succ n ih =>
      intro h
      obtain ⟨j, hj, e, hl⟩ := ih (by omega)
      have eb : btmax (pdL (xs.map f)) (n + 1) j = decide (lt xs[j] xs[n + 1]) := by
        unfold btmax; rw [hget _ h, hget _ hj, O.pd]
      unfold argBest
      rw [e, eb]
      by_cases hlt : lt xs[j] xs[n + 1]
      · refine ⟨n + 1, h, by simp [hlt], fun i hi hin hlt2 => ?_⟩
        by_cases hi2 : i = n + 1
        · subst hi2; exact O.irr _ hlt2
        · exact hl i hi (by omega) (O.tr _ _ _ hlt hlt2)
      · refine ⟨j, hj, by simp [hlt], fun i hi hin hlt2 => ?_⟩
        by_cases hi2 : i = n + 1
        · subst hi2; exact hlt hlt2
        · exact hl i hi (by omega) hlt2
  obtain ⟨j, hj, e, hl⟩ := key (xs.length - 1) (by omega)
  refine ⟨xs[j], List.getElem_mem hj, fun b hb => ?_, ?_⟩
  · obtain ⟨i, hi, rfl⟩ := List.getElem_of_mem hb
    exact hl i hi (by omega)
  · unfold max1F
    rw [hx, Option.bind_some, if_pos (O.cond hne)]
    have : maxI0 (pdL (xs.map f)) = j := by
      unfold maxI0
      rw [pdL_map, List.length_map, ← pdL_map]
      exact e
    rw [this, List.getElem?_map, List.getElem?_eq_getElem hj]; rfl
theorem ordd_nat : Ordd (fun n : Nat => D.int (n : Int)) (· < ·) where
  pd := fun a b => by
    simp only [D.pd, PySem.W.dataLt_int]
    rw [Bool.eq_iff_iff, decide_eq_true_eq, decide_eq_true_eq]; omega
  al := fun a b => by simp [D.pd, PySem.W.alike]
  ok := fun a => by simp [okD]
  nn := fun a => by simp [D.pd]
  irr := fun a => by omega
  tr := fun a b c => by omega
theorem flat_nats (w : List Nat) : (nats w).all flatD = true := by simp [flatD]
theorem findIdx_nats : ∀ (o : List Nat) (r : Nat), r ∈ o → (nats o).findIdx? (fun d => d.eqb (.int (r : Int))) = some (o.idxOf r)
  | [], r, h => by simp at h
  | x :: o, r, h => by
    by_cases hx : x = r
    · subst hx
      simp [List.findIdx?_cons, D.eqb]
    · have hx' : ¬ (x : Int) = (r : Int) := by omega
      have ih := findIdx_nats o r (by
        rcases List.mem_cons.mp h with e | e
        · exact absurd e.symm hx
        · exact e)
      rw [show nats (x :: o) = .int (x : Int) :: nats o from rfl, List.findIdx?_cons, ih]
      have : (x == r) = false := by simp [hx]
      simp [D.eqb, hx', List.idxOf_cons, this]
theorem idx_nat {o : List Nat} {r : Nat} (h : r ∈ o) (M : Mem) : idxTF (.v (tN o)) (.v (.int (r : Int))) M = some (.v (.int ((o.idxOf r : Nat) : Int)), M) := by
  have hf := findIdx_nats o r h
  have ha := flat_nats o
  simp only [tN, idxTF, form, Option.bind_some, flatD, ha, and_self, if_true, hf, Option.map_some]
noncomputable def folded_E1 (ρ : Env) (m : Mem) : Option (Out × Mem) := (eBin ixF (eVar 1) (eVar 5)) ρ m
theorem w_folded_E1 {ρ : Env} {M : Mem} {Q : PO2} : WE folded_E1 ρ M Q ↔ WE (eBin ixF (eVar 1) (eVar 5)) ρ M Q := Iff.rfl
noncomputable def folded_E2 (ρ : Env) (m : Mem) : Option (Out × Mem) := (eUn tupF (eComp (iE (eBin ixF (eVar 0) (eVar 4))) [5] (.nm 5) bYes folded_E1)) ρ m
theorem w_folded_E2 {ρ : Env} {M : Mem} {Q : PO2} : WE folded_E2 ρ M Q ↔ WE (eUn tupF (eComp (iE (eBin ixF (eVar 0) (eVar 4))) [5] (.nm 5) bYes folded_E1)) ρ M Q := Iff.rfl
noncomputable def folded_E3 (ρ : Env) (m : Mem) : Option (Out × Mem) := (eTm1 idxTF (eVar 1) (eVar 3)) ρ m
theorem w_folded_E3 {ρ : Env} {M : Mem} {Q : PO2} : WE folded_E3 ρ M Q ↔ WE (eTm1 idxTF (eVar 1) (eVar 3)) ρ M Q := Iff.rfl
noncomputable def m_folded : Fn := fnD 2 6
    (sSeq (sSet 2 (eComp (iRg1 (eBin addF (eUn max1F (eVar 1)) (eC (.int 1)))) [3] (.nm 3) bYes folded_E3))
    (sRet (eUn tupF (eComp (iE (eVar 2)) [4] (.nm 4) bYes folded_E2))))
theorem folded_w {m : List (List Nat)} {l : Nat} (hm : Mach m l) (hb : m.length ≤ 1000) {c : List Nat} {k : Nat} (P : Prtn m.length c k) (hk : 0 < k) {M : Mem} {K : PO2} (kk : K (.v (tM (foldM m c k))) M) : WO (m_folded [tM m, tN c] M) K := by
  unfold m_folded
  have hle := P.le
  have hne : c ≠ [] := fun z => by
    have := (P.val 0).mpr hk
    rw [z] at this; simp at this
  have emax : ∀ M : Mem, max1F (.v (tN c)) M = some (.v (.int ((k - 1 : Nat) : Int)), M) := fun M => by
    obtain ⟨a, ha, hb, e⟩ := max1_of ordd_nat hne (x := .v (tN c)) (M := M) rfl
    have h1 := (P.val a).mp ha
    have h2 := hb (k - 1) ((P.val _).mpr (by omega))
    rw [e, show a = k - 1 by omega]
  have e1 : ((k - 1 : Nat) : Int) + 1 = (k : Int) := by omega
  simp only [wp, wx, wf, Nat.reduceSub, emax, add_int, e1]
  refine ⟨rg_nat (by omega), ?_⟩
  rw [Int.toNat_natCast, upto_nats]
  refine wc_map (fun (r : Nat) => D.int (r : Int)) (fun (r : Nat) => D.int ((c.idxOf r : Nat) : Int)) (List.range k) (fun o ho => ?_) ?_
  · simp only [wp, wx, w_folded_E3, idx_nat ((P.val o).mpr (List.mem_range.mp ho))]
    exact ⟨rfl, rfl⟩
  have hg : ∀ u : Ob, (M ++ [u])[M.length]? = some u := fun u => get_end rfl
  simp only [wp, wx, src_ref (hg _)]
  refine wc_mapL3 (fun (r : Nat) => D.int ((c.idxOf r : Nat) : Int)) (fun (r : Nat) => tN ((m.getD (c.idxOf r) []).map fun g => c.getD g 0)) (List.range k) (chk_one (hg _)) (fun o ho => ?_) ?_
  · have hi := (P.ix (List.mem_range.mp ho)).1
    have eg : m.getD (c.idxOf o) [] = m[c.idxOf o] := by simp [List.getD, hi]
    simp only [wp, wx, w_folded_E2, ix_row hi, src_tN, nats]
    refine wc_map (fun (r : Nat) => D.int (r : Int)) (fun (r : Nat) => D.int ((c.getD r 0 : Nat) : Int)) m[c.idxOf o] (fun g hg => ?_) ?_
    · have hgl : g < c.length := by rw [P.len]; exact hm.lt _ (List.getElem_mem hi) _ hg
      simp only [wp, wx, w_folded_E1, ix_nat hgl]
      exact ⟨by rw [getD_get hgl], rfl⟩
    · simp only [wp, wx, tup_ol, eg]
      exact ⟨by simp [tN, nats, Function.comp_def], rfl⟩
  · simp only [wp, wx, tup_ol]
    rw [show (D.tup ((List.range k).map fun (r : Nat) => tN ((m.getD (c.idxOf r) []).map fun g => c.getD g 0))) = tM (foldM m c k) by simp [tM, foldM, Function.comp_def]]
    rw [kFn_va (d := tM (foldM m c k)) (by simp)]
    exact kk
noncomputable def numbered_E1 (ρ : Env) (m : Mem) : Option (Out × Mem) := (eBin dixF (eVar 1) (eVar 2)) ρ m
theorem w_numbered_E1 {ρ : Env} {M : Mem} {Q : PO2} : WE numbered_E1 ρ M Q ↔ WE (eBin dixF (eVar 1) (eVar 2)) ρ M Q := Iff.rfl
noncomputable def numbered_F1 (ρ : Env) (m : Mem) : Option R := (sDo (eDm2 setdF (eVar 1) (eVar 2) (eUn lndF (eVar 1)))) ρ m
theorem w_numbered_F1 {ρ : Env} {M : Mem} {Q : R → Prop} : WS numbered_F1 ρ M Q ↔ WS (sDo (eDm2 setdF (eVar 1) (eVar 2) (eUn lndF (eVar 1)))) ρ M Q := Iff.rfl
noncomputable def m_numbered : Fn := fnD 1 3
    (sSeq (sSet 1 eDnew)
    (sSeq (sFor (iE (eVar 0)) (gT (.nm 2)) numbered_F1)
    (sRet (eUn tupF (eComp (iE (eVar 0)) [2] (.nm 2) bYes numbered_E1)))))
/-! ### the program's numbering -/
def nD (fs : List Nat) : List (D × D) := fs.zipIdx.map fun p => (.int ((p.1 : Nat) : Int), .int ((p.2 : Nat) : Int))
theorem nD_snoc (fs : List Nat) (x : Nat) : nD (fs ++ [x]) = nD fs ++ [(.int (x : Int), .int ((fs.length : Nat) : Int))] := by
  simp [nD, List.zipIdx_append]
theorem nD_len (fs : List Nat) : (nD fs).length = fs.length := by simp [nD]
theorem look_nD (fs : List Nat) (x : Nat) : dlook (nD fs) (.int (x : Int)) = if x ∈ fs then some (.int ((fs.idxOf x : Nat) : Int)) else none := by
  induction fs using snocRec with
  | nil => simp [nD, dlook_nil]
  | snoc fs y ih =>
    rw [nD_snoc, dlook_app, ih]
    by_cases h : x ∈ fs
    · rw [if_pos h, if_pos (List.mem_append_left _ h), List.idxOf_append, if_pos h]
    · rw [if_neg h]
      simp only
      by_cases hy : y = x
      · subst hy
        rw [if_pos rfl, if_pos (by simp), List.idxOf_append, if_neg h]
        simp
      · have h1 : ¬ (D.int (y : Int) = D.int (x : Int)) := fun z => hy (by have := D.int.inj z; omega)
        have h2 : x ∉ fs ++ [y] := fun z => by
          rcases List.mem_append.mp z with z | z
          · exact h z
          · simp at z; exact hy z.symm
        rw [if_neg h1, if_neg h2]
theorem prog_numbered_w {M : Mem} {q : Nat} {c : List Nat} (h : M[q]? = some (.lst (nats c))) (hl : c.length ≤ 1000) {K : PO2} (k : K (.v (tN (numN c))) M) : WO (m_numbered [.ref q] M) K := by
  unfold m_numbered
  have hg : ∀ u : Ob, (M ++ [u])[M.length]? = some u := fun u => get_end rfl
  have hq : ∀ u : Ob, (M ++ [u])[q]? = some (.lst (nats c)) := fun u => get_app h
  have hki : ∀ i : Int, keyOf (.v (.int i)) = some (.int i) := fun i => by simp [keyOf, nk, NestedKey.depth]
  simp only [wp, wx, wf, Nat.reduceSub, src_ref (hq _)]
  refine wl_typl (fun (r : Nat) => D.int (r : Int)) c (fun i ρ M' => M' = M ++ [.dcr (nD (firstsN (c.take i)))] ∧ ∃ x, ρ = [some (.ref q), some (.ref M.length), x]) ⟨by simp [firstsN, nD], none, rfl⟩ (fun i ρ M' j => by rw [j.1]; exact hq _) (fun i hi ρ M' j => ?_) (fun ρ M' j => ?_)
  · obtain ⟨rfl, x, rfl⟩ := j
    have ht : c.take (i + 1) = c.take i ++ [c[i]] := by rw [List.take_add_one, List.getElem?_eq_getElem hi]; rfl
    have hn := firstsN_snoc (c.take i) c[i]
    rw [← ht] at hn
    have hlen := (firstsN_mem (c.take i)).2.1
    rw [List.length_take] at hlen
    have hdc : isDct (.v (.ref M.length)) (M ++ [.dcr (nD (firstsN (c.take i)))]) = true := by simp [isDct, dctOf]
    have hf : fits ((nD (firstsN (c.take i))).length + 1) := fits_of (by rw [nD_len]; omega)
    simp only [wp, wx, w_numbered_F1, hdc, lnd_ref (hg _)]
    by_cases hm : c[i] ∈ firstsN (c.take i)
    · rw [if_pos hm] at hn
      have es : setdF (.v (.ref M.length)) (.v (.int ((c[i] : Nat) : Int))) (.v (.int (((nD (firstsN (c.take i))).length : Nat) : Int))) (M ++ [.dcr (nD (firstsN (c.take i)))]) = some (.v (.int (((firstsN (c.take i)).idxOf c[i] : Nat) : Int)), M ++ [.dcr (nD (firstsN (c.take i)))]) := by
        simp only [setdF, hg, hki, Option.bind_some, if_pos hf, look_nD, if_pos hm]
      simp only [es, wp, wx]
      exact ⟨by rw [hn], _, rfl⟩
    · rw [if_neg hm] at hn
      have hlk : dlook (nD (firstsN (c.take i))) (.int ((c[i] : Nat) : Int)) = none := by rw [look_nD, if_neg hm]
      have es : setdF (.v (.ref M.length)) (.v (.int ((c[i] : Nat) : Int))) (.v (.int (((nD (firstsN (c.take i))).length : Nat) : Int))) (M ++ [.dcr (nD (firstsN (c.take i)))]) = some (.v (.int (((firstsN (c.take i)).length : Nat) : Int)), M ++ [.dcr (nD (firstsN (c.take (i + 1))))]) := by
        simp only [setdF, hg, hki, Option.bind_some, if_pos hf, hlk, val_v, set_end rfl, dsto_new hlk]
        rw [hn, nD_snoc, nD_len]
      simp only [es, wp, wx]
      exact ⟨_, rfl⟩
  · obtain ⟨rfl, x, rfl⟩ := j
    rw [List.take_length]
    simp only [wp, wx, src_ref (hq _)]
    refine wc_mapL3 (fun (r : Nat) => D.int (r : Int)) (fun (r : Nat) => D.int (((firstsN c).idxOf r : Nat) : Int)) c (chk_one (hq _)) (fun y hy => ?_) ?_
    · have ed : dixF (.v (.ref M.length)) (.v (.int (y : Int))) (M ++ [.dcr (nD (firstsN c))]) = some (.v (.int (((firstsN c).idxOf y : Nat) : Int)), M ++ [.dcr (nD (firstsN c))]) := by
        simp only [dixF, dctOf, hg, Option.bind_some, hki, look_nD, if_pos (((firstsN_mem c).1 y).mpr hy), Option.map_some]
      simp only [wp, wx, w_numbered_E1, ed]
      exact ⟨rfl, rfl⟩
    · simp only [wp, wx, tup_ol]
      have : (c.map fun (r : Nat) => D.int (((firstsN c).idxOf r : Nat) : Int)) = nats (numN c) := by simp [nats, numN]
      rw [this, tN_eq, kFn_va (by simp)]
      exact k
noncomputable def m_all_rooms : Fn := fnD 1 1
    (sRet (eRg1 mkT (eUn lenF (eVar 0))))
noncomputable def m_letters_of : Fn := fnD 1 1
    (sRet (eUn lenF (eBin ixF (eVar 0) (eC (.int 0)))))
noncomputable def m_pair_of : Fn := fnD 2 2
    (sRet (eTup (aCons (eBin min2F (eVar 0) (eVar 1)) (aCons (eBin max2F (eVar 0) (eVar 1)) aNil))))
noncomputable def pairs_of_E1 (ρ : Env) (m : Mem) : Option (Out × Mem) := (eTup (aCons (eVar 3) (aCons (eVar 4) aNil))) ρ m
theorem w_pairs_of_E1 {ρ : Env} {M : Mem} {Q : PO2} : WE pairs_of_E1 ρ M Q ↔ WE (eTup (aCons (eVar 3) (aCons (eVar 4) aNil))) ρ M Q := Iff.rfl
noncomputable def pairs_of_F1 (ρ : Env) (m : Mem) : Option R := (sDo (eMt1 "list" extF (eVar 1) (eComp (iE (eSl (eVar 0) (oSome (eBin addF (eVar 2) (eC (.int 1)))) oNone)) [4] (.nm 4) bYes pairs_of_E1))) ρ m
theorem w_pairs_of_F1 {ρ : Env} {M : Mem} {Q : R → Prop} : WS pairs_of_F1 ρ M Q ↔ WS (sDo (eMt1 "list" extF (eVar 1) (eComp (iE (eSl (eVar 0) (oSome (eBin addF (eVar 2) (eC (.int 1)))) oNone)) [4] (.nm 4) bYes pairs_of_E1))) ρ M Q := Iff.rfl
noncomputable def m_pairs_of : Fn := fnD 1 5
    (sSeq (sSet 1 (eLst aNil))
    (sSeq (sFor (iEnumE (eVar 0)) (gT (.tp [2, 3])) pairs_of_F1)
    (sRet (eVar 1))))
noncomputable def m_pair_behind : Fn := fnD 3 5
    (sSeq (sSet 3 (eBin ixF (eBin ixF (eVar 0) (eBin ixF (eVar 1) (eC (.int 0)))) (eVar 2)))
    (sSeq (sSet 4 (eBin ixF (eBin ixF (eVar 0) (eBin ixF (eVar 1) (eC (.int 1)))) (eVar 2)))
    (sSeq (sIf (bOf (eBin eqF (eVar 3) (eVar 4))) (sRet (eC .non)) sNil)
    (sRet (eCall m_pair_of (aCons (eVar 3) (aCons (eVar 4) aNil)))))))
noncomputable def joined_at_once_E1 (ρ : Env) (m : Mem) : Option (Out × Mem) := (eCall m_pair_behind (aCons (eVar 0) (aCons (eVar 1) (aCons (eVar 2) aNil)))) ρ m
theorem w_joined_at_once_E1 {ρ : Env} {M : Mem} {Q : PO2} : WE joined_at_once_E1 ρ M Q ↔ WE (eCall m_pair_behind (aCons (eVar 0) (aCons (eVar 1) (aCons (eVar 2) aNil)))) ρ M Q := Iff.rfl
noncomputable def m_joined_at_once : Fn := fnD 2 3
    (sRet (eBin (inF false) (eC .non) (eComp (iRg1 (eCall m_letters_of (aCons (eVar 0) aNil))) [2] (.nm 2) bYes joined_at_once_E1)))
noncomputable def pairs_ahead_F1 (ρ : Env) (m : Mem) : Option R := (sDo (eMt1 "list" appF (eDm2 setdF (eVar 2) (eCall m_pair_behind (aCons (eVar 0) (aCons (eVar 3) (aCons (eVar 4) aNil)))) (eLst aNil)) (eVar 3))) ρ m
theorem w_pairs_ahead_F1 {ρ : Env} {M : Mem} {Q : R → Prop} : WS pairs_ahead_F1 ρ M Q ↔ WS (sDo (eMt1 "list" appF (eDm2 setdF (eVar 2) (eCall m_pair_behind (aCons (eVar 0) (aCons (eVar 3) (aCons (eVar 4) aNil)))) (eLst aNil)) (eVar 3))) ρ M Q := Iff.rfl
noncomputable def pairs_ahead_F2 (ρ : Env) (m : Mem) : Option R := (sFor (iRg1 (eCall m_letters_of (aCons (eVar 0) aNil))) (gT (.nm 4)) pairs_ahead_F1) ρ m
theorem w_pairs_ahead_F2 {ρ : Env} {M : Mem} {Q : R → Prop} : WS pairs_ahead_F2 ρ M Q ↔ WS (sFor (iRg1 (eCall m_letters_of (aCons (eVar 0) aNil))) (gT (.nm 4)) pairs_ahead_F1) ρ M Q := Iff.rfl
noncomputable def m_pairs_ahead : Fn := fnD 2 5
    (sSeq (sSet 2 eDnew)
    (sSeq (sFor (iE (eVar 1)) (gT (.nm 3)) pairs_ahead_F2)
    (sRet (eVar 2))))
noncomputable def lengths_F1 (ρ : Env) (m : Mem) : Option R := (sIf (bOf (eBin (dinF true) (eVar 5) (eVar 4))) (sSeq (sPut (eBin addF (eBin dixF (eVar 4) (eBin ixF (eVar 3) (eVar 6))) (eC (.int 1))) (gDx (eVar 4) (eVar 5)))
    (sDo (eMt1 "list" appF (eVar 3) (eVar 5)))) sNil) ρ m
theorem w_lengths_F1 {ρ : Env} {M : Mem} {Q : R → Prop} : WS lengths_F1 ρ M Q ↔ WS (sIf (bOf (eBin (dinF true) (eVar 5) (eVar 4))) (sSeq (sPut (eBin addF (eBin dixF (eVar 4) (eBin ixF (eVar 3) (eVar 6))) (eC (.int 1))) (gDx (eVar 4) (eVar 5)))
    (sDo (eMt1 "list" appF (eVar 3) (eVar 5)))) sNil) ρ M Q := Iff.rfl
noncomputable def lengths_T1 (ρ : Env) (m : Mem) : Option (Bool × Mem) := (bOf (eBin ltF (eVar 6) (eUn lenF (eVar 3)))) ρ m
theorem w_lengths_T1 {ρ : Env} {M : Mem} {Q : Bool → Mem → Prop} : WB lengths_T1 ρ M Q ↔ WB (bOf (eBin ltF (eVar 6) (eUn lenF (eVar 3)))) ρ M Q := Iff.rfl
noncomputable def lengths_W1 (ρ : Env) (m : Mem) : Option R := (sSeq (sFor (iE (eDm2 get2F (eVar 2) (eBin ixF (eVar 3) (eVar 6)) (eLst aNil))) (gT (.nm 5)) lengths_F1)
    (sAug 6 augAdd (eC (.int 1)))) ρ m
theorem w_lengths_W1 {ρ : Env} {M : Mem} {Q : R → Prop} : WS lengths_W1 ρ M Q ↔ WS (sSeq (sFor (iE (eDm2 get2F (eVar 2) (eBin ixF (eVar 3) (eVar 6)) (eLst aNil))) (gT (.nm 5)) lengths_F1)
    (sAug 6 augAdd (eC (.int 1)))) ρ M Q := Iff.rfl
noncomputable def lengths_F2 (ρ : Env) (m : Mem) : Option R := (sPut (eC (.int 1)) (gDx (eVar 4) (eVar 5))) ρ m
theorem w_lengths_F2 {ρ : Env} {M : Mem} {Q : R → Prop} : WS lengths_F2 ρ M Q ↔ WS (sPut (eC (.int 1)) (gDx (eVar 4) (eVar 5))) ρ M Q := Iff.rfl
noncomputable def lengths_C1 (ρ : Env) (m : Mem) : Option (Bool × Mem) := (bOf (eCall m_joined_at_once (aCons (eVar 0) (aCons (eVar 5) aNil)))) ρ m
theorem w_lengths_C1 {ρ : Env} {M : Mem} {Q : Bool → Mem → Prop} : WB lengths_C1 ρ M Q ↔ WB (bOf (eCall m_joined_at_once (aCons (eVar 0) (aCons (eVar 5) aNil)))) ρ M Q := Iff.rfl
noncomputable def lengths_E1 (ρ : Env) (m : Mem) : Option (Out × Mem) := (eVar 5) ρ m
theorem w_lengths_E1 {ρ : Env} {M : Mem} {Q : PO2} : WE lengths_E1 ρ M Q ↔ WE (eVar 5) ρ M Q := Iff.rfl
noncomputable def m_lengths : Fn := fnD 1 7
    (sSeq (sSet 1 (eCall m_pairs_of (aCons (eCall m_all_rooms (aCons (eVar 0) aNil)) aNil)))
    (sSeq (sSet 2 (eCall m_pairs_ahead (aCons (eVar 0) (aCons (eVar 1) aNil))))
    (sSeq (sSet 3 (eComp (iE (eVar 1)) [5] (.nm 5) lengths_C1 lengths_E1))
    (sSeq (sSet 4 eDnew)
    (sSeq (sFor (iE (eVar 3)) (gT (.nm 5)) lengths_F2)
    (sSeq (sSet 6 (eC (.int 0)))
    (sSeq (sWhile lengths_T1 lengths_W1)
    (sRet (eVar 4)))))))))
/-! ### pairs of rooms: what the program's defs compute -/
def pairD (p : P2) : D := tN [p.1, p.2]
def optD : Option P2 → D
  | none => .non
  | some p => pairD p
theorem pairD_inj {p q : P2} (h : pairD p = pairD q) : p = q := by
  obtain ⟨a, b⟩ := p
  obtain ⟨c, d⟩ := q
  simp [pairD, tN] at h
  have h1 : a = c := by omega
  have h2 : b = d := by omega
  rw [h1, h2]
theorem optD_inj {p q : Option P2} (h : optD p = optD q) : p = q := by
  cases p with
  | none => cases q with
    | none => rfl
    | some q => simp [optD, pairD, tN] at h
  | some p => cases q with
    | none => simp [optD, pairD, tN] at h
    | some q => rw [pairD_inj h]
@[simp] theorem lo_pairD (n : Nat) (p : P2) : D.lo n (pairD p) = True := by simp [pairD]
@[simp] theorem key_pair (p : P2) : keyOf (.v (pairD p)) = some (pairD p) := by simp [keyOf, pairD, tN, nk, nks, NestedKey.depth, NestedKey.depthAll]
@[simp] theorem key_opt (p : Option P2) : keyOf (.v (optD p)) = some (optD p) := by
  cases p with
  | none => simp [optD, keyOf, nk, NestedKey.depth]
  | some p => exact key_pair p
theorem ix_p0 (p : P2) (M : Mem) : ixF (.v (pairD p)) (.v (.int 0)) M = some (.v (.int (p.1 : Nat)), M) := ix_nat (w := [p.1, p.2]) (r := 0) (by simp) M
theorem ix_p1 (p : P2) (M : Mem) : ixF (.v (pairD p)) (.v (.int 1)) M = some (.v (.int (p.2 : Nat)), M) := ix_nat (w := [p.1, p.2]) (r := 1) (by simp) M
theorem rooms_eq (m : List (List Nat)) (hb : m.length ≤ 10000) (M : Mem) : m_all_rooms [tM m] M = some (.v (tN (List.range m.length)), M) := by
  refine wo_eq ?_
  unfold m_all_rooms
  simp only [wp, wx, wf, Nat.reduceSub, len_tM]
  refine ⟨rg_nat (by omega), ?_⟩
  simp only [Int.toNat_natCast, mkT_rg]
  rw [kFn_v (by simp)]
  exact ⟨rfl, rfl⟩
theorem letters_eq {m : List (List Nat)} {l : Nat} (hm : Mach m l) (h0 : 0 < m.length) (M : Mem) : m_letters_of [tM m] M = some (.v (.int (l : Int)), M) := by
  refine wo_eq ?_
  unfold m_letters_of
  have e : ixF (.v (tM m)) (.v (.int 0)) M = some (.v (tN m[0]), M) := ix_row (r := 0) h0 M
  simp only [wp, wx, wf, Nat.reduceSub, e, len_tN, hm.row h0]
  rw [kFn_v (by simp)]
  exact ⟨rfl, rfl⟩
theorem min2_nat (a b : Nat) (M : Mem) : min2F (.v (.int (a : Int))) (.v (.int (b : Int))) M = some (.v (.int ((min a b : Nat) : Int)), M) := by
  have : (if (b : Int) < (a : Int) then (b : Int) else (a : Int)) = ((min a b : Nat) : Int) := by split <;> omega
  simp only [min2F, this]
theorem max2_nat (a b : Nat) (M : Mem) : max2F (.v (.int (a : Int))) (.v (.int (b : Int))) M = some (.v (.int ((max a b : Nat) : Int)), M) := by
  have : (if (b : Int) > (a : Int) then (b : Int) else (a : Int)) = ((max a b : Nat) : Int) := by split <;> omega
  simp only [max2F, this]
theorem tup_pair (a b : Nat) : D.tup [.int (a : Int), .int (b : Int)] = pairD (a, b) := rfl
theorem pair_of_eq (a b : Nat) (M : Mem) : m_pair_of [.int (a : Int), .int (b : Int)] M = some (.v (pairD (ordP a b)), M) := by
  refine wo_eq ?_
  unfold m_pair_of
  simp only [wp, wx, wf, Nat.reduceSub, min2_nat, max2_nat, tup_pair]
  rw [kFn_v (by simp)]
  exact ⟨rfl, rfl⟩
theorem behind_eq {m : List (List Nat)} {l : Nat} (hm : Mach m l) {p : P2} (hp : PairOk m.length p) {a : Nat} (ha : a < l) (M : Mem) : m_pair_behind [tM m, pairD p, .int (a : Int)] M = some (.v (optD (behN m p a)), M) := by
  have h1 : p.1 < m.length := Nat.lt_trans hp.1 hp.2
  refine wo_eq ?_
  unfold m_pair_behind
  simp only [wp, wx, wf, Nat.reduceSub, ix_p0, ix_p1, ix_row h1, ix_row hp.2, ix_stp hm h1 ha, ix_stp hm hp.2 ha, eq_int]
  by_cases h : stp m p.1 a = stp m p.2 a
  · have h' : (stp m p.1 a : Int) = stp m p.2 a := by rw [h]
    simp only [h', decide_true, wp, wx]
    rw [kFn_v (by simp)]
    exact ⟨by simp [behN, h, optD], rfl⟩
  · have h' : ¬ (stp m p.1 a : Int) = stp m p.2 a := by omega
    simp only [h', decide_false, wp, wx, pair_of_eq]
    rw [kFn_v (by simp)]
    exact ⟨by simp [behN, h, optD], rfl⟩
theorem pairs_of_eq {S : List Nat} (hb : S.length ≤ 200) (M : Mem) : m_pairs_of [tN S] M = some (.o (.lst ((prs S).map pairD)), M) := by
  refine wo_eqO ?_
  unfold m_pairs_of
  have e1 : enumOf (.v (tN S)) (M ++ [.lst []]) = some ⟨enumD 0 (nats S), []⟩ := by simp [enumOf, tN]
  simp only [wp, wx, wf, Nat.reduceSub, e1]
  have pre : ∀ i, i ≤ S.length → prs S = ((List.range i).flatMap fun k => (S.drop (k + 1)).map fun y => (S.getD k 0, y)) ++ prs (S.drop i) := by
    intro i
    induction i with
    | zero => intro _; simp
    | succ i ih =>
      intro hi
      have hi' : i < S.length := by omega
      rw [ih (by omega), List.drop_eq_getElem_cons hi', prs, List.range_succ, List.flatMap_append]
      simp [List.getD, hi']
  have len : ∀ i, i ≤ S.length → ((List.range i).flatMap fun k => (S.drop (k + 1)).map fun y => (S.getD k 0, y)).length ≤ 40000 := by
    intro i hi
    have h1 := pre i hi
    have h2 := prs_len S
    rw [h1, List.length_append] at h2
    have : S.length * S.length ≤ 200 * 200 := Nat.mul_le_mul hb hb
    omega
  refine wl_inv (fun i ρ M' => ∃ x y, ρ = [some (tN S), some (.ref M.length), x, y, none] ∧ M' = M ++ [.lst (((List.range i).flatMap fun k => (S.drop (k + 1)).map fun y => (S.getD k 0, y)).map pairD)]) ⟨none, none, rfl, by simp⟩ (fun _ _ _ _ _ => chk_nil) (fun i x ρ M' hx j => ?_) (fun ρ M' j => ?_)
  · obtain ⟨u, v, rfl, rfl⟩ := j
    obtain ⟨y, hy, rfl⟩ := enumD_get hx
    rw [List.getElem?_map] at hy
    obtain ⟨r, hr, rfl⟩ := Option.map_eq_some_iff.mp hy
    obtain ⟨hi, rfl⟩ := List.getElem?_eq_some_iff.mp hr
    have es : ∀ M : Mem, slF (.v (tN S)) (some (((0 + i : Nat) : Int) + 1)) none M = some (.v (tN (S.drop (i + 1))), M) := fun M => by
      rw [tN, sl_tup, cut_from (by omega), tN, show (((0 + i : Nat) : Int) + 1).toNat = i + 1 by omega]; simp
    generalize hacc : ((List.range i).flatMap fun k => (S.drop (k + 1)).map fun y => (S.getD k 0, y)) = acc
    have hal : acc.length ≤ 40000 := by rw [← hacc]; exact len i (by omega)
    simp only [wp, wx, w_pairs_of_F1, isT_ref (get_end rfl), add_int, es, src_tN]
    refine wc_map (fun (r : Nat) => D.int (r : Int)) (fun (r : Nat) => pairD (S[i], r)) (S.drop (i + 1)) (fun r hr => ?_) ?_
    · simp only [wp, wx, w_pairs_of_E1, tup_pair]
      exact ⟨rfl, rfl⟩
    · have hz : fits ((acc.map pairD).length + ((S.drop (i + 1)).map fun (r : Nat) => pairD (S[i], r)).length) := fits_of (by simp; omega)
      have ee : extF (.v (.ref M.length)) (.o (.lst ((S.drop (i + 1)).map fun (r : Nat) => pairD (S[i], r)))) (M ++ [.lst (acc.map pairD)]) = some (.v .non, M ++ [.lst (acc.map pairD ++ (S.drop (i + 1)).map fun (r : Nat) => pairD (S[i], r))]) := by
        simp only [extF, get_end rfl, lstOf, Option.bind_some, if_pos hz, set_end rfl]
      simp only [wp, wx, ee]
      refine ⟨_, _, rfl, ?_⟩
      rw [List.range_succ, List.flatMap_append, hacc]
      simp [List.getD, hi, Function.comp_def]
  · obtain ⟨u, v, rfl, rfl⟩ := j
    rw [enumD_len, List.length_map] at *
    have := pre S.length (Nat.le_refl _)
    rw [List.drop_length, prs, List.append_nil] at this
    rw [← this]
    simp only [wp, wx]
    rw [kFn_ra (b := .lst ((prs S).map pairD)) (Nat.le_refl _) (get_end rfl) (by show loL _ _; rw [loL_iff]; intro d hd; obtain ⟨q, _, rfl⟩ := List.mem_map.mp hd; simp)]
    exact ⟨rfl, rfl⟩
theorem inNone {m : List (List Nat)} {l : Nat} {p : P2} (M : Mem) : inF false (.v .non) (.o (.lst ((List.range l).map fun a => optD (behN m p a)))) M = some (.v (.bl (joinB m l p)), M) := by
  have h1 : okL 63 ((List.range l).map fun a => optD (behN m p a)) = true := by
    generalize List.range l = L
    induction L with
    | nil => rfl
    | cons a L ih =>
      rw [List.map_cons, okL, ih, Bool.and_true]
      cases behN m p a with
      | none => rfl
      | some q => simp [optD, pairD, tN, okD, okL]
  have h2 : (((List.range l).map fun a => optD (behN m p a)).any fun d => d.eqb .non) = joinB m l p := by
    unfold joinB
    rw [List.any_map]
    congr 1
    funext a
    simp only [Function.comp]
    cases behN m p a with
    | none => simp [optD, D.eqb]
    | some q => simp [optD, pairD, tN, D.eqb]
  simp only [inF, form, seqOf, Option.bind_some]
  by_cases hf : flatD .non = true ∧ ((List.range l).map fun a => optD (behN m p a)).all flatD = true
  · rw [if_pos hf]; simp [h2]
  · rw [if_neg hf, if_pos ⟨rfl, h1⟩]; simp [h2]
theorem joined_eq {m : List (List Nat)} {l : Nat} (hm : Mach m l) (hl : l ≤ 10000) {p : P2} (hp : PairOk m.length p) (M : Mem) : m_joined_at_once [tM m, pairD p] M = some (.v (.bl (joinB m l p)), M) := by
  have h0 : 0 < m.length := by have := hp.2; omega
  refine wo_eq ?_
  unfold m_joined_at_once
  simp only [wp, wx, wf, Nat.reduceSub, letters_eq hm h0]
  refine ⟨rg_nat (by omega), ?_⟩
  rw [Int.toNat_natCast, upto_nats]
  refine wc_map (fun (r : Nat) => D.int (r : Int)) (fun a => optD (behN m p a)) (List.range l) (fun a ha => ?_) ?_
  · simp only [wp, wx, w_joined_at_once_E1, behind_eq hm hp (List.mem_range.mp ha)]
    exact ⟨rfl, rfl⟩
  · simp only [wp, wx, inNone]
    rw [kFn_v (by simp)]
    exact ⟨rfl, rfl⟩
open Classical in
/-- the dict of lists of pairs that letters lead there -/
noncomputable def aheadF (m : List (List Nat)) (l : Nat) (ps : List P2) (key : D) : List D := ps.flatMap fun p => ((List.range l).filter fun a => decide (optD (behN m p a) = key)).map fun _ => pairD p
open Classical in
theorem aheadF_opt (m : List (List Nat)) (l : Nat) (o : Option P2) : aheadF m l (allP m) (optD o) = (nbr m l o).map pairD := by
  unfold aheadF nbr
  rw [List.map_flatMap]
  congr 1
  funext p
  rw [List.map_map]
  have : (fun a => decide (optD (behN m p a) = optD o)) = fun a => decide (behN m p a = o) := by
    funext a
    rw [Bool.eq_iff_iff, decide_eq_true_eq, decide_eq_true_eq]
    exact ⟨optD_inj, fun h => by rw [h]⟩
  rw [this]
  rfl
open Classical in
theorem aheadF_len (m : List (List Nat)) (l : Nat) (ps : List P2) (key : D) : (aheadF m l ps key).length ≤ ps.length * l := by
  unfold aheadF
  induction ps with
  | nil => simp
  | cons p ps ih =>
    rw [List.flatMap_cons, List.length_append, List.length_map, List.length_cons, Nat.add_mul]
    have := List.length_filter_le (fun a => decide (optD (behN m p a) = key)) (List.range l)
    rw [List.length_range] at this
    omega
open Classical in
theorem ahead_w {m : List (List Nat)} {l : Nat} (hm : Mach m l) (hb : m.length ≤ 26) (hl : l ≤ 6) {n0 : Nat} {M : Mem} (hn0 : M[n0]? = some (.lst ((allP m).map pairD))) {K : PO2}
    (k : ∀ (a : Nat) (M' : Mem), Low M.length M M' → Grp M.length M' a (aheadF m l (allP m)) 100000 → K (.v (.ref a)) M') (k0 : (∀ key, aheadF m l (allP m) key = []) → K (.o (.dcr [])) M) : WO (m_pairs_ahead [tM m, .ref n0] M) K := by
  have hN : (allP m).length ≤ 676 := by
    have := prs_len (List.range m.length)
    rw [List.length_range] at this
    have h2 : m.length * m.length ≤ 26 * 26 := Nat.mul_le_mul hb hb
    unfold allP; omega
  have hn0' : n0 < M.length := (List.getElem?_eq_some_iff.mp hn0).1
  unfold m_pairs_ahead
  simp only [wp, wx, wf, Nat.reduceSub]
  have hn1 : (M ++ [Ob.dcr []])[n0]? = some (.lst ((allP m).map pairD)) := by rw [List.getElem?_append_left hn0']; exact hn0
  simp only [src_ref hn1, wp, wx]
  have lim : ∀ (i : Nat) (key : D), (aheadF m l ((allP m).take i) key).length ≤ 5000 := fun i key => by
    have h1 := aheadF_len m l ((allP m).take i) key
    have h2 : ((allP m).take i).length * l ≤ 676 * 6 := Nat.mul_le_mul (by rw [List.length_take]; omega) hl
    omega
  refine wl_typl pairD (allP m) (fun i ρ M' => ∃ x y, ρ = [some (tM m), some (.ref n0), some (.ref M.length), x, y] ∧ Low M.length M M' ∧ Grp M.length M' M.length (aheadF m l ((allP m).take i)) (i * 6)) ⟨none, none, rfl, low_app (Nat.le_refl _), Grp.new (by simp)⟩
    (fun i ρ M' j => ?_) (fun i hi ρ M' j => ?_) (fun ρ M' j => ?_)
  · obtain ⟨x, y, _, hlow, _⟩ := j; rw [hlow.2 n0 hn0']; exact hn0
  · obtain ⟨x, y, rfl, hlow, hg⟩ := j
    have hp : PairOk m.length (allP m)[i] := allP_mem.mp (List.getElem_mem hi)
    have h0 : 0 < m.length := by have := hp.2; omega
    generalize hP : (allP m)[i] = p at hp ⊢
    simp only [wp, wx, w_pairs_ahead_F2, letters_eq hm h0]
    refine ⟨rg_nat (by omega), ?_⟩
    rw [Int.toNat_natCast]
    refine wl_rg0 (fun j ρ M2 => ∃ y, ρ = [some (tM m), some (.ref n0), some (.ref M.length), some (pairD p), y] ∧ Low M.length M M2 ∧ Grp M.length M2 M.length (fun key => aheadF m l ((allP m).take i) key ++ ((List.range j).filter fun a => decide (optD (behN m p a) = key)).map fun _ => pairD p) (i * 6 + j)) ⟨y, rfl, hlow, by simpa using hg⟩ (fun j ρ M2 hj jj => ?_) (fun ρ M2 jj => ?_)
    · obtain ⟨y, rfl, hlow2, hg2⟩ := jj
      obtain ⟨r, M3, M4, e1, e2, e3, hlow4, hg4⟩ := hg2.step (key := optD (behN m p j)) (x := pairD p) (key_opt _) (by omega) (by
        rw [List.length_append, List.length_map]
        have := lim i (optD (behN m p j))
        have h2 := List.length_filter_le (fun a => decide (optD (behN m p a) = optD (behN m p j))) (List.range j)
        rw [List.length_range] at h2
        omega) hlow2.1
      have hd : isDct (.v (.ref M.length)) M2 = true := by
        obtain ⟨kvs, e, _⟩ := hg2
        simp [isDct, dctOf, e]
      simp only [wp, wx, w_pairs_ahead_F1, hd, behind_eq hm hp hj, e1, e2, e3]
      refine ⟨_, rfl, hlow2.trans (hlow4.low (Nat.le_refl _)), ?_⟩
      have e : (fun k => if k = optD (behN m p j) then (aheadF m l ((allP m).take i) k ++ ((List.range j).filter fun a => decide (optD (behN m p a) = k)).map fun _ => pairD p) ++ [pairD p] else aheadF m l ((allP m).take i) k ++ ((List.range j).filter fun a => decide (optD (behN m p a) = k)).map fun _ => pairD p) =
          fun key => aheadF m l ((allP m).take i) key ++ ((List.range (j + 1)).filter fun a => decide (optD (behN m p a) = key)).map fun _ => pairD p := by
        funext key
        rw [List.range_succ, List.filter_append, List.map_append]
        by_cases hk : key = optD (behN m p j)
        · rw [if_pos hk, List.append_assoc]
          congr 2
          simp [hk]
        · rw [if_neg hk]
          have : decide (optD (behN m p j) = key) = false := by simp; exact fun z => hk z.symm
          simp [this]
      rw [e] at hg4
      exact hg4
    · obtain ⟨y, rfl, hlow2, hg2⟩ := jj
      refine ⟨_, _, rfl, hlow2, ?_⟩
      have e : (fun key => aheadF m l ((allP m).take i) key ++ ((List.range l).filter fun a => decide (optD (behN m p a) = key)).map fun _ => pairD p) = aheadF m l ((allP m).take (i + 1)) := by
        funext key
        unfold aheadF
        rw [List.take_add_one, List.getElem?_eq_getElem hi, Option.toList_some, List.flatMap_append, hP]
        simp
      rw [e] at hg2
      obtain ⟨kvs, h2, h3, h4⟩ := hg2
      exact ⟨kvs, h2, by omega, h4⟩
  · obtain ⟨x, y, rfl, hlow, hg⟩ := j
    rw [List.take_length] at hg
    have hg' : Grp M.length M' M.length (aheadF m l (allP m)) 100000 := by
      obtain ⟨kvs, h2, h3, h4⟩ := hg
      exact ⟨kvs, h2, by omega, h4⟩
    simp only [wp, wx]
    rw [kFn_rt]
    obtain ⟨e, rfl⟩ := hlow.app
    obtain ⟨kvs, h2, h3, h4, h5, h6⟩ := hg
    unfold shut
    rw [if_pos (okM_app M e)]
    have hnl : ¬ D.lo M.length (.ref M.length) := by simp
    simp only [if_neg hnl, h2]
    by_cases hlo : (Ob.dcr kvs).lo M.length
    · simp only [if_pos hlo, List.take_left]
      cases kvs with
      | nil => exact k0 fun key => h5 key (dlook_nil key)
      | cons q kvs =>
        exfalso
        obtain ⟨j, ej, hj, _⟩ := h4 q.1 q.2 (by rw [dlook_cons, if_pos rfl])
        have hlo' : loK M.length (q :: kvs) := hlo
        rw [loK, ej] at hlo'
        have := hlo'.2.1
        simp at this
        omega
    · simp only [if_neg hlo]
      exact k _ _ hlow hg'
/-! lengths -/
def frD (fr : List (P2 × Nat)) : List (D × D) := fr.map fun c => (pairD c.1, .int (c.2 : Int))
theorem look_fr (fr : List (P2 × Nat)) (p : P2) : dlook (frD fr) (pairD p) = (lk fr p).map fun (k : Nat) => D.int (k : Int) := by
  induction fr with
  | nil => rfl
  | cons c fr ih =>
    rw [frD, List.map_cons, dlook_cons]
    unfold lk
    by_cases h : c.1 = p
    · rw [if_pos (by rw [h]), List.find?_cons_of_pos (by simp [h])]; rfl
    · rw [if_neg (fun z => h (pairD_inj z)), List.find?_cons_of_neg (by simp [h])]; exact ih
theorem look_frn (fr : List (P2 × Nat)) : dlook (frD fr) .non = none := by
  induction fr with
  | nil => rfl
  | cons c fr ih => rw [frD, List.map_cons, dlook_cons, if_neg (by simp [pairD, tN])]; exact ih
theorem lk_none {fr : List (P2 × Nat)} {p : P2} : lk fr p = none ↔ p ∉ keysB fr := by
  unfold lk keysB
  rw [Option.map_eq_none_iff, List.find?_eq_none]
  simp only [decide_eq_true_eq, List.mem_map]
  constructor
  · rintro h ⟨c, hc, e⟩; exact h c hc e
  · intro h c hc e; exact h ⟨c, hc, e⟩
theorem nodup_len {α : Type} [DecidableEq α] : ∀ {l U : List α}, l.Nodup → (∀ x ∈ l, x ∈ U) → l.length ≤ U.length
  | [], _, _, _ => by simp
  | x :: l, U, h, hs => by
    obtain ⟨h1, h2⟩ := List.nodup_cons.mp h
    have hx : x ∈ U := hs x (by simp)
    have := nodup_len (l := l) (U := U.erase x) h2 fun y hy => (List.mem_erase_of_ne (fun z => h1 (by subst z; exact hy))).mpr (hs y (by simp [hy]))
    rw [List.length_erase_of_mem hx] at this
    have : 0 < U.length := List.length_pos_of_mem hx
    simp only [List.length_cons]
    omega
/-- keys that are pairs, none twice -/
structure Kys (m : List (List Nat)) (fr : List (P2 × Nat)) : Prop where
  nd : (keysB fr).Nodup
  ok : ∀ c ∈ fr, PairOk m.length c.1
theorem Kys.len {m : List (List Nat)} {fr : List (P2 × Nat)} (h : Kys m fr) : fr.length ≤ (allP m).length := by
  have := nodup_len (U := allP m) h.nd fun p hp => by
    obtain ⟨c, hc, rfl⟩ := List.mem_map.mp hp
    exact allP_mem.mpr (h.ok c hc)
  simpa [keysB] using this
theorem Kys.put {m : List (List Nat)} {fr : List (P2 × Nat)} (h : Kys m fr) {c : P2 × Nat} (hc : PairOk m.length c.1) : Kys m (put1 fr c) := by
  by_cases hk : c.1 ∈ keysB fr
  · rw [put1_in hk]; exact h
  · rw [put1_new hk]
    refine ⟨?_, fun x hx => ?_⟩
    · show (List.map _ _).Nodup
      rw [List.map_append, List.nodup_append]
      exact ⟨h.nd, by simp, fun a ha b hb => by simp at hb; subst hb; intro z; subst z; exact hk ha⟩
    · rcases List.mem_append.mp hx with hx | hx
      · exact h.ok x hx
      · simp at hx; subst hx; exact hc
theorem allP_len {m : List (List Nat)} (hb : m.length ≤ 26) : (allP m).length ≤ 676 := by
  have := prs_len (List.range m.length)
  rw [List.length_range] at this
  have h2 : m.length * m.length ≤ 26 * 26 := Nat.mul_le_mul hb hb
  unfold allP; omega
theorem lk_at {fr : List (P2 × Nat)} (h : (keysB fr).Nodup) {c : P2 × Nat} (hc : c ∈ fr) : lk fr c.1 = some c.2 := by
  induction fr with
  | nil => cases hc
  | cons x fr ih =>
    have h' : (x.1 :: keysB fr).Nodup := h
    obtain ⟨h1, h2⟩ := List.nodup_cons.mp h'
    unfold lk
    rcases List.mem_cons.mp hc with rfl | hc
    · rw [List.find?_cons_of_pos (by simp)]; rfl
    · have : x.1 ≠ c.1 := fun z => h1 (by rw [z]; exact List.mem_map_of_mem hc)
      rw [List.find?_cons_of_neg (by simp [this])]
      exact ih h2 hc
/-- a turn of the inner walk: put1 -/
theorem frD_put {m : List (List Nat)} {fr : List (P2 × Nat)} {c : P2 × Nat} (h : c.1 ∉ keysB fr) : dsto (frD fr) (pairD c.1) (.int (c.2 : Int)) = frD (put1 fr c) := by
  rw [dsto_new (by rw [look_fr, lk_none.mpr h]; rfl), put1_new h]
  simp [frD]
theorem len_loop {m : List (List Nat)} {l : Nat} (hm : Mach m l) (hb : m.length ≤ 26) (hl : l ≤ 6) {M : Mem} {a lo : Nat} (hg : Grp lo M a (aheadF m l (allP m)) 100000) {P x : Option D} {Q : R → Prop}
    (k : ∀ fr x y e, Lens m l fr → Q (.nx [some (tM m), P, some (.ref a), some (.ref M.length), some (.ref (M.length + 1)), x, y] (M ++ [e, .dcr (frD fr)]))) :
    WH lengths_T1 lengths_W1 fuel [some (tM m), P, some (.ref a), some (.ref M.length), some (.ref (M.length + 1)), x, some (.int 0)] (M ++ [.lst ((keysB (lsd m l)).map pairD), .dcr (frD (lsd m l))]) Q := by
  have hN := allP_len hb
  have haM : a < M.length := by obtain ⟨kvs, e, _⟩ := hg; exact (List.getElem?_eq_some_iff.mp e).1
  have kys : ∀ {at_ : Nat} {fr : List (P2 × Nat)}, Bfs (lnx m l) (· ≤ ·) (lsd m l) at_ fr → Kys m fr := fun B => ⟨B.nd, fun c hc => (lens_der c (B.dr c hc)).1⟩
  refine wfu (n0 := 700) (fun n ρ M' => ∃ at_ fr x, n = 700 - at_ ∧ Bfs (lnx m l) (· ≤ ·) (lsd m l) at_ fr ∧ ρ = [some (tM m), P, some (.ref a), some (.ref M.length), some (.ref (M.length + 1)), x, some (.int (at_ : Int))] ∧ M' = M ++ [.lst ((keysB fr).map pairD), .dcr (frD fr)]) (by omega) ⟨0, _, x, rfl, Bfs.init _ _ _ (lrule m l), rfl, rfl⟩ (fun n ρ M' j => ?_)
  obtain ⟨at_, fr, x, rfl, B, rfl, rfl⟩ := j
  have K0 := kys B
  have hlen := K0.len
  have g1 : ∀ (u v : Ob), (M ++ [u, v])[M.length]? = some u := fun u v => by rw [gm0]; rfl
  have g2 : ∀ (u v : Ob), (M ++ [u, v])[M.length + 1]? = some v := fun u v => by rw [gmk]; rfl
  simp only [wp, wx, w_lengths_T1, len_ref (g1 _ _), ltF, cmp_int, List.length_map]
  by_cases hat : at_ < fr.length
  · have hat' : (at_ : Int) < ((keysB fr).length : Int) := by simp [keysB]; omega
    simp only [hat', decide_true, wc, w_lengths_W1, wp, wx]
    have hq : fr[at_]? = some fr[at_] := List.getElem?_eq_getElem hat
    generalize hqq : fr[at_] = q at hq
    have hkat : ((keysB fr).map pairD)[at_]? = some (pairD q.1) := by
      rw [List.getElem?_map, keysB, List.getElem?_map, hq]; rfl
    have hqok : PairOk m.length q.1 := K0.ok q (List.mem_of_getElem? hq)
    -- front[at], whatever stands behind in it
    have eix : ∀ (ys : List D) (v : Ob), ixF (.v (.ref M.length)) (.v (.int (at_ : Int))) (M ++ [.lst ((keysB fr).map pairD ++ ys), v]) = some (.v (pairD q.1), M ++ [.lst ((keysB fr).map pairD ++ ys), v]) := fun ys v => by
      have hl2 : at_ < ((keysB fr).map pairD ++ ys).length := by simp [keysB]; omega
      simp only [ixF, seqOf, g1, Option.bind_some]
      rw [atI_get _ _ hl2]
      have : ((keysB fr).map pairD ++ ys)[at_]? = some (pairD q.1) := by rw [List.getElem?_append_left (by simp [keysB]; omega)]; exact hkat
      rw [List.getElem?_eq_getElem hl2] at this
      simp only [Option.some.injEq] at this
      simp [this]
    have eix0 := eix [] (.dcr (frD fr))
    rw [List.append_nil] at eix0
    have hgx : ∀ e : Mem, Grp lo (M ++ e) a (aheadF m l (allP m)) 100000 := fun e => hg.keep (by rw [List.getElem?_append_left haM]) fun i _ hi => by rw [List.getElem?_append_left hi]
    have hdc : isDct (.v (.ref a)) (M ++ [.lst ((keysB fr).map pairD), .dcr (frD fr)]) = true := by
      obtain ⟨kvs, e, _⟩ := hgx [.lst ((keysB fr).map pairD), .dcr (frD fr)]
      simp [isDct, dctOf, e]
    simp only [hdc, eix0, wp, wx]
    -- the inner walk over the pairs that letters lead there
    have inner : ∀ (lv : List (Nat × Ob)), (∀ u v : Ob, chk lv (M ++ [u, v])) → WL (gT (.nm 5)) lengths_F1 lv ((nbr m l (some q.1)).map pairD) [some (tM m), P, some (.ref a), some (.ref M.length), some (.ref (M.length + 1)), x, some (.int (at_ : Int))] (M ++ [.lst ((keysB fr).map pairD), .dcr (frD fr)])
        (kSeq (sAug 6 augAdd (eC (.int 1))) (kTurn (fun ρ M' => ∃ k', k' < 700 - at_ ∧ ∃ at_ fr x, k' = 700 - at_ ∧ Bfs (lnx m l) (· ≤ ·) (lsd m l) at_ fr ∧ ρ = [some (tM m), P, some (.ref a), some (.ref M.length), some (.ref (M.length + 1)), x, some (.int (at_ : Int))] ∧ M' = M ++ [.lst ((keysB fr).map pairD), .dcr (frD fr)]) Q)) := by
      intro lv hlv
      have lnxlen : (lnx m l q).length = (nbr m l (some q.1)).length := by simp [lnx]
      refine wl_inv (fun i ρ M' => ∃ g x, g = addAll fr ((lnx m l q).take i) ∧ Kys m g ∧ ρ = [some (tM m), P, some (.ref a), some (.ref M.length), some (.ref (M.length + 1)), x, some (.int (at_ : Int))] ∧ M' = M ++ [.lst ((keysB g).map pairD), .dcr (frD g)]) ⟨fr, x, by simp [addAll], K0, rfl, rfl⟩ (fun i ρ M' _ j => ?_) (fun i y ρ M' hy j => ?_) (fun ρ M' j => ?_)
      · obtain ⟨g, x, _, _, _, rfl⟩ := j; exact hlv _ _
      · obtain ⟨g, x, hgd, Kg, rfl, rfl⟩ := j
        rw [List.getElem?_map] at hy
        obtain ⟨p, e1, rfl⟩ := Option.map_eq_some_iff.mp hy
        obtain ⟨hi, rfl⟩ := List.getElem?_eq_some_iff.mp e1
        have hp : PairOk m.length (nbr m l (some q.1))[i] := (nbr_mem.mp (List.getElem_mem hi)).1
        generalize hpp : (nbr m l (some q.1))[i] = p at hp ⊢
        have hc : (lnx m l q)[i]'(by rw [lnxlen]; exact hi) = (p, q.2 + 1) := by simp [lnx, hpp]
        have hnext : addAll fr ((lnx m l q).take (i + 1)) = put1 g (p, q.2 + 1) := by rw [addAll_take (by rw [lnxlen]; exact hi), hc, hgd]
        obtain ⟨ex, hex, _⟩ := addAll_pre fr ((lnx m l q).take i)
        rw [← hgd] at hex
        have hgl := Kg.len
        have Kn := Kg.put (c := (p, q.2 + 1)) hp
        have e2 : dinF true (.v (pairD p)) (.v (.ref (M.length + 1))) (M ++ [.lst ((keysB g).map pairD), .dcr (frD g)]) = some (.v (.bl (!(lk g p).isSome)), M ++ [.lst ((keysB g).map pairD), .dcr (frD g)]) := by
          simp only [dinF, dctOf, g2, Option.bind_some, key_pair, look_fr, if_true, Option.isSome_map]
        simp only [wp, wx, w_lengths_F1, e2]
        by_cases hk : p ∈ keysB g
        · have hs : (lk g p).isSome = true := by
            cases h : lk g p with
            | none => exact absurd hk (lk_none.mp h)
            | some _ => rfl
          simp only [hs, Bool.not_true, wp, wx]
          refine ⟨g, _, ?_, Kg, rfl, rfl⟩
          rw [hnext, put1_in hk]
        · have hs : (lk g p).isSome = false := by rw [lk_none.mpr hk]; rfl
          have hqg : q ∈ g := by rw [hex]; exact List.mem_append_left _ (List.mem_of_getElem? hq)
          have e3 : dixF (.v (.ref (M.length + 1))) (.v (pairD q.1)) (M ++ [.lst ((keysB g).map pairD), .dcr (frD g)]) = some (.v (.int (q.2 : Int)), M ++ [.lst ((keysB g).map pairD), .dcr (frD g)]) := by
            simp only [dixF, dctOf, g2, Option.bind_some, key_pair, look_fr, lk_at Kg.nd hqg]; rfl
          have e4 := eix ((keysB ex).map pairD) (.dcr (frD g))
          have eg : (keysB g).map pairD = (keysB fr).map pairD ++ (keysB ex).map pairD := by rw [hex]; simp [keysB]
          rw [← eg] at e4
          have hf : fits ((frD g).length + 1) := fits_of (by simp [frD]; omega)
          have e5 : dstoF (.v (.ref (M.length + 1))) (.v (pairD p)) (.int ((q.2 : Int) + 1)) (M ++ [.lst ((keysB g).map pairD), .dcr (frD g)]) = some (M ++ [.lst ((keysB g).map pairD), .dcr (frD (put1 g (p, q.2 + 1)))]) := by
            simp only [dstoF, g2, key_pair, Option.bind_some, if_pos hf, smk]
            rw [← frD_put (m := m) (c := (p, q.2 + 1)) hk]
            simp
          have hf2 : fits (((keysB g).map pairD).length + 1) := fits_of (by simp [keysB]; omega)
          have e6 : appF (.v (.ref M.length)) (.v (pairD p)) (M ++ [.lst ((keysB g).map pairD), .dcr (frD (put1 g (p, q.2 + 1)))]) = some (.v .non, M ++ [.lst ((keysB (put1 g (p, q.2 + 1))).map pairD), .dcr (frD (put1 g (p, q.2 + 1)))]) := by
            simp only [appF, g1, if_pos hf2, val_v, sm0]
            rw [put1_new hk]
            simp [keysB]
          simp only [hs, Bool.not_false, wp, wx, e4, e3, add_int, e5, isT_ref (g1 _ _), e6]
          exact ⟨_, _, hnext.symm, Kn, rfl, rfl⟩
      · obtain ⟨g, x, hgd, Kg, rfl, rfl⟩ := j
        rw [List.length_map, ← lnxlen, List.take_length] at hgd
        have B' := B.step (lrule m l) hq
        rw [← hgd] at B'
        simp only [wp, wx, augAdd_int]
        have hkl := (kys B').len
        have := B'.le
        exact ⟨700 - (at_ + 1), by omega, at_ + 1, g, x, rfl, B', by simp, rfl⟩
    obtain ⟨kvs, hk1, hk2, hk3, hk4, hk5⟩ := hgx [.lst ((keysB fr).map pairD), .dcr (frD fr)]
    have e7 := aheadF_opt m l (some q.1)
    cases hd : dlook kvs (pairD q.1) with
    | some v =>
      obtain ⟨j, rfl, hj1, hj2, hj3, hj4⟩ := hk3 _ _ hd
      have eget : get2F (.v (.ref a)) (.v (pairD q.1)) (.o (.lst [])) (M ++ [.lst ((keysB fr).map pairD), .dcr (frD fr)]) = some (.v (.ref j), M ++ [.lst ((keysB fr).map pairD), .dcr (frD fr)]) := by
        simp only [get2F, dctOf, hk1, Option.bind_some, key_pair, hd]
      have hj3' : (M ++ [Ob.lst ((keysB fr).map pairD), .dcr (frD fr)])[j]? = some (.lst ((nbr m l (some q.1)).map pairD)) := by rw [hj3]; exact congrArg (fun z => some (Ob.lst z)) e7
      simp only [eget, wp, wx, src_ref hj3']
      refine inner _ fun u v => chk_one ?_
      have hjM : j < M.length := by
        obtain ⟨kvs', hk1', _, hk3', _⟩ := hg
        have : kvs = kvs' := by
          rw [List.getElem?_append_left haM, hk1'] at hk1; cases hk1; rfl
        subst this
        obtain ⟨j', e, _, _, hj3'', _⟩ := hk3' _ _ hd
        cases e
        exact (List.getElem?_eq_some_iff.mp hj3'').1
      rw [List.getElem?_append_left hjM] at hj3' ⊢
      exact hj3'
    | none =>
      have hnil : (nbr m l (some q.1)).map pairD = [] := by rw [← e7]; exact hk4 _ hd
      have eget : get2F (.v (.ref a)) (.v (pairD q.1)) (.o (.lst [])) (M ++ [.lst ((keysB fr).map pairD), .dcr (frD fr)]) = some (.o (.lst []), M ++ [.lst ((keysB fr).map pairD), .dcr (frD fr)]) := by
        simp only [get2F, dctOf, hk1, Option.bind_some, key_pair, hd]
      simp only [eget, wp, wx, src_ol]
      have := inner [] fun _ _ => chk_nil
      rw [hnil] at this
      exact this
  · have hat' : ¬ (at_ : Int) < ((keysB fr).length : Int) := by simp [keysB]; omega
    simp only [hat', decide_false, wc]
    have hae : at_ = fr.length := by have := B.le; omega
    subst hae
    exact k fr x _ _ B
theorem lengths_w {m : List (List Nat)} {l : Nat} (hm : Mach m l) (hb : m.length ≤ 26) (hl : l ≤ 6) {M : Mem} {K : PO2} (k : ∀ fr, Lens m l fr → K (.o (.dcr (frD fr))) M) : WO (m_lengths [tM m] M) K := by
  have hN := allP_len hb
  unfold m_lengths
  simp only [wp, wx, wf, Nat.reduceSub, rooms_eq m (by omega), pairs_of_eq (S := List.range m.length) (by simp; omega)]
  rw [show (prs (List.range m.length)).map pairD = (allP m).map pairD from rfl]
  generalize hM1 : (M ++ [Ob.lst ((allP m).map pairD)] : Mem) = M1
  have hL1 : M1.length = M.length + 1 := by rw [← hM1]; simp
  have hg1 : M1[M.length]? = some (.lst ((allP m).map pairD)) := by rw [← hM1]; exact get_end rfl
  -- what follows the dict ahead
  suffices hmain : ∀ (a : Nat) (M2 : Mem), Low M1.length M1 M2 → Grp M1.length M2 a (aheadF m l (allP m)) 100000 → WS (sSeq (sSet 3 (eComp (iE (eVar 1)) [5] (.nm 5) lengths_C1 lengths_E1))
    (sSeq (sSet 4 eDnew)
    (sSeq (sFor (iE (eVar 3)) (gT (.nm 5)) lengths_F2)
    (sSeq (sSet 6 (eC (.int 0)))
    (sSeq (sWhile lengths_T1 lengths_W1)
    (sRet (eVar 4))))))) [some (tM m), some (.ref M.length), some (.ref a), none, none, none, none] M2 (kFn M K) by
    refine ahead_w hm hb hl hg1 (fun a M2 h1 h2 => ?_) (fun h0 => ?_)
    · simp only [kSet_v, kSeq_nx, wx]
      exact hmain a M2 h1 h2
    · simp only [kSet_o, kSeq_nx, wx]
      have hg := Grp.new (lo := M1.length) (M := M1 ++ [.dcr []]) (a := M1.length) (by simp)
      have e : (fun _ => []) = aheadF m l (allP m) := by funext key; exact (h0 key).symm
      rw [e] at hg
      obtain ⟨kvs, q2, q3, q4⟩ := hg
      exact hmain M1.length (M1 ++ [.dcr []]) (low_app (Nat.le_refl _)) ⟨kvs, q2, by omega, q4⟩
  intro a M2 hlow hg
  have hg2 : M2[M.length]? = some (.lst ((allP m).map pairD)) := by rw [hlow.2 M.length (by omega)]; exact hg1
  have hML : M1.length ≤ M2.length := hlow.1
  have hM2 : Low M.length M M2 := by
    refine ⟨by omega, fun i hi => ?_⟩
    rw [hlow.2 i (by omega), ← hM1, List.getElem?_append_left hi]
  simp only [wp, wx, src_ref hg2]
  refine wc_inv (fun i acc M' => M' = M2 ∧ acc = (((allP m).take i).filter (joinB m l)).map pairD) ⟨rfl, by simp⟩ (fun _ _ _ _ j => by rw [j.1]; exact chk_one hg2) (fun i x acc M' hx j => ?_) (fun acc M' j => ?_)
  · obtain ⟨rfl, rfl⟩ := j
    rw [List.getElem?_map] at hx
    obtain ⟨p, e1, rfl⟩ := Option.map_eq_some_iff.mp hx
    obtain ⟨hi, rfl⟩ := List.getElem?_eq_some_iff.mp e1
    have hp : PairOk m.length (allP m)[i] := allP_mem.mp (List.getElem_mem hi)
    have et : ((allP m).take (i + 1)).filter (joinB m l) = ((allP m).take i).filter (joinB m l) ++ (if joinB m l (allP m)[i] = true then [(allP m)[i]] else []) := by
      rw [List.take_add_one, List.getElem?_eq_getElem hi, Option.toList_some, List.filter_append]
      congr 1
      simp [List.filter_cons]
    simp only [wp, wx, wc, w_lengths_C1, joined_eq hm (by omega) hp]
    cases hj : joinB m l (allP m)[i] with
    | true => simp only [wc, w_lengths_E1, wp, wx]; rw [et, hj]; simp
    | false => simp only [wc]; rw [et, hj]; simp
  · obtain ⟨rfl, rfl⟩ := j
    rw [List.length_map, List.take_length]
    simp only [wp, wx, lapp, lcon, lnil, nz]
    generalize hF : M'.length = F at *
    have hgf : ∀ (xs : List D) (o : Ob), (M' ++ [Ob.lst xs] ++ [o])[F]? = some (.lst xs) := fun xs o => by rw [List.append_assoc, ← hF, gm0]; rfl
    have hndk : (keysB (lsd m l)).Nodup := (lrule m l).nd
    have hkeys : ((allP m).filter (joinB m l)).map pairD = (keysB (lsd m l)).map pairD := by simp [keysB, lsd, Function.comp_def]
    have hlsd : (lsd m l).length ≤ 676 := by
      have := List.length_filter_le (joinB m l) (allP m)
      simp only [lsd, List.length_map]; omega
    rw [hkeys]
    have g1 : ∀ (u v : Ob), (M' ++ [u, v])[F]? = some u := fun u v => by rw [← hF, gm0]; rfl
    have g2 : ∀ (u v : Ob), (M' ++ [u, v])[F + 1]? = some v := fun u v => by rw [← hF, gmk]; rfl
    simp only [aas, aco, ani, src_ref (g1 _ _), wp, wx]
    refine wl_typl pairD (keysB (lsd m l)) (fun i ρ M2 => ∃ x, ρ = [some (tM m), some (.ref M.length), some (.ref a), some (.ref F), some (.ref (F + 1)), x, none] ∧ M2 = M' ++ [.lst ((keysB (lsd m l)).map pairD), .dcr (frD ((lsd m l).take i))]) ⟨none, rfl, by simp [frD]⟩ (fun i ρ M2 j => ?_) (fun i hi ρ M2 j => ?_) (fun ρ M2 j => ?_)
    · obtain ⟨x, _, rfl⟩ := j; exact g1 _ _
    · obtain ⟨x, rfl, rfl⟩ := j
      have hi' : i < (lsd m l).length := by simpa [keysB] using hi
      have hk2 : (keysB (lsd m l))[i] = (lsd m l)[i].1 := by simp [keysB]
      have hv2 : (lsd m l)[i].2 = 1 := by simp [lsd]
      have hnk : (lsd m l)[i].1 ∉ keysB ((lsd m l).take i) := by
        intro hmem
        obtain ⟨j, hj, ej⟩ := List.getElem_of_mem hmem
        have hj1 : j < i := by simp [keysB] at hj; omega
        have : (keysB (lsd m l))[j]'(by simp [keysB]; omega) = (keysB (lsd m l))[i] := by rw [hk2, ← ej]; simp [keysB]
        have := nd_inj hndk (by simp [keysB]; omega) (by simpa using hi) this
        omega
      have hf : fits ((frD ((lsd m l).take i)).length + 1) := fits_of (by simp [frD]; omega)
      have e5 : dstoF (.v (.ref (F + 1))) (.v (pairD (lsd m l)[i].1)) (.int 1) (M' ++ [.lst ((keysB (lsd m l)).map pairD), .dcr (frD ((lsd m l).take i))]) = some (M' ++ [.lst ((keysB (lsd m l)).map pairD), .dcr (frD ((lsd m l).take (i + 1)))]) := by
        simp only [dstoF, g2, key_pair, Option.bind_some, if_pos hf]
        rw [← hF, smk, List.take_add_one, List.getElem?_eq_getElem hi', Option.toList_some]
        have := frD_put (m := m) (c := (lsd m l)[i]) hnk
        rw [hv2] at this
        rw [show (D.int 1) = D.int ((1 : Nat) : Int) from rfl, this, put1_new hnk]
        rfl
      simp only [wp, wx, w_lengths_F2, hk2, e5]
      exact ⟨_, rfl, trivial⟩
    · obtain ⟨x, rfl, rfl⟩ := j
      have hkl : (keysB (lsd m l)).length = (lsd m l).length := by simp [keysB]
      rw [hkl, List.take_length]
      simp only [wp, wx]
      rw [← hF]
      refine len_loop hm hb hl hg fun fr x y e L => ?_
      simp only [wp, wx]
      obtain ⟨e', rfl⟩ := hM2.app
      rw [aas, kFn_ra (b := .dcr (frD fr)) (by simp; omega) (by rw [← aas, gmk]; rfl) ?_]
      · exact k fr L
      · show loK _ _
        unfold frD
        clear L
        induction fr with
        | nil => simp [loK]
        | cons c fr ih => rw [List.map_cons, loK]; exact ⟨by simp, by simp, ih⟩
/-! ### all pairs by counting -/
def prsTo (n i : Nat) : List P2 := (List.range i).flatMap fun a => (List.range (n - a - 1)).map fun b => (a, a + 1 + b)
theorem prs_drop (n : Nat) : ∀ k, k ≤ n → prs ((List.range n).drop (n - k)) = (List.range k).flatMap fun i => (List.range (k - i - 1)).map fun b => (n - k + i, n - k + i + 1 + b)
  | 0, _ => by rw [Nat.sub_zero, List.drop_of_length_le (by simp)]; simp [prs]
  | k + 1, h => by
    have hlt : n - (k + 1) < (List.range n).length := by simp; omega
    rw [List.drop_eq_getElem_cons hlt, prs, show n - (k + 1) + 1 = n - k by omega, prs_drop n k (by omega), List.range_succ_eq_map, List.flatMap_cons]
    congr 1
    · apply List.ext_getElem
      · simp; omega
      · intro i h1 h2
        simp at h1 h2 ⊢
        omega
    · rw [List.flatMap_map]
      congr 1
      funext i
      rw [show k + 1 - i.succ - 1 = k - i - 1 by omega]
      congr 1
      funext b
      simp only [Nat.succ_eq_add_one]
      rw [show n - (k + 1) + (i + 1) = n - k + i by omega]
theorem prsTo_all (n : Nat) : prsTo n n = prs (List.range n) := by
  have := prs_drop n n (Nat.le_refl _)
  rw [Nat.sub_self, List.drop_zero] at this
  rw [this]
  simp [prsTo]
theorem prsTo_succ (n i : Nat) : prsTo n (i + 1) = prsTo n i ++ (List.range (n - i - 1)).map fun b => (i, i + 1 + b) := by
  unfold prsTo; rw [List.range_succ, List.flatMap_append]; simp
theorem prsTo_len (n : Nat) : ∀ i, (prsTo n i).length ≤ i * n
  | 0 => by simp [prsTo]
  | i + 1 => by
    rw [prsTo_succ, List.length_append, Nat.succ_mul]
    have := prsTo_len n i
    simp; omega
theorem ext_ref {M : Mem} {q : Nat} {xs ys : List D} (h : M[q]? = some (.lst xs)) (hl : xs.length + ys.length ≤ 90000) : extF (.v (.ref q)) (.o (.lst ys)) M = some (.v .non, M.set q (.lst (xs ++ ys))) := by
  have hf : fits (xs.length + ys.length) := fits_of (by omega)
  simp only [extF, h, lstOf, Option.bind_some, if_pos hf]
@[simp] theorem lo_pair (n : Nat) (p : P2) : D.lo n (pairD p) = True := by simp [pairD]
theorem loL_pairs (n : Nat) (T : List P2) : loL n (T.map pairD) := by
  rw [loL_iff]; intro d hd; obtain ⟨q, _, rfl⟩ := List.mem_map.mp hd; simp
noncomputable def kept_by_E1 (ρ : Env) (m : Mem) : Option (Out × Mem) := (eTup (aCons (eBin ixF (eBin ixF (eVar 0) (eVar 4)) (eVar 9)) (aCons (eBin ixF (eBin ixF (eVar 0) (eVar 5)) (eVar 9)) aNil))) ρ m
theorem w_kept_by_E1 {ρ : Env} {M : Mem} {Q : PO2} : WE kept_by_E1 ρ M Q ↔ WE (eTup (aCons (eBin ixF (eBin ixF (eVar 0) (eVar 4)) (eVar 9)) (aCons (eBin ixF (eBin ixF (eVar 0) (eVar 5)) (eVar 9)) aNil))) ρ M Q := Iff.rfl
noncomputable def kept_by_E2 (ρ : Env) (m : Mem) : Option (Out × Mem) := (eIf (bOf (eBin eqF (eVar 8) (eVar 7))) (eVar 6) (eVar 8)) ρ m
theorem w_kept_by_E2 {ρ : Env} {M : Mem} {Q : PO2} : WE kept_by_E2 ρ M Q ↔ WE (eIf (bOf (eBin eqF (eVar 8) (eVar 7))) (eVar 6) (eVar 8)) ρ M Q := Iff.rfl
noncomputable def kept_by_T1 (ρ : Env) (m : Mem) : Option (Bool × Mem) := (bOf (eBin gtF (eUn lenF (eVar 3)) (eC (.int 0)))) ρ m
theorem w_kept_by_T1 {ρ : Env} {M : Mem} {Q : Bool → Mem → Prop} : WB kept_by_T1 ρ M Q ↔ WB (bOf (eBin gtF (eUn lenF (eVar 3)) (eC (.int 0)))) ρ M Q := Iff.rfl
noncomputable def kept_by_W1 (ρ : Env) (m : Mem) : Option R := (sSeq (sPut (eMt0 "list" pop0F (eVar 3)) (gT (.tp [4, 5])))
    (sSeq (sPut (eTup (aCons (eBin ixF (eVar 2) (eVar 4)) (aCons (eBin ixF (eVar 2) (eVar 5)) aNil))) (gT (.tp [6, 7])))
    (sIf (bOf (eBin neF (eVar 6) (eVar 7))) (sSeq (sSet 2 (eComp (iE (eVar 2)) [8] (.nm 8) bYes kept_by_E2))
    (sDo (eMt1 "list" extF (eVar 3) (eComp (iRg1 (eCall m_letters_of (aCons (eVar 0) aNil))) [9] (.nm 9) bYes kept_by_E1)))) sNil))) ρ m
theorem w_kept_by_W1 {ρ : Env} {M : Mem} {Q : R → Prop} : WS kept_by_W1 ρ M Q ↔ WS (sSeq (sPut (eMt0 "list" pop0F (eVar 3)) (gT (.tp [4, 5])))
    (sSeq (sPut (eTup (aCons (eBin ixF (eVar 2) (eVar 4)) (aCons (eBin ixF (eVar 2) (eVar 5)) aNil))) (gT (.tp [6, 7])))
    (sIf (bOf (eBin neF (eVar 6) (eVar 7))) (sSeq (sSet 2 (eComp (iE (eVar 2)) [8] (.nm 8) bYes kept_by_E2))
    (sDo (eMt1 "list" extF (eVar 3) (eComp (iRg1 (eCall m_letters_of (aCons (eVar 0) aNil))) [9] (.nm 9) bYes kept_by_E1)))) sNil))) ρ M Q := Iff.rfl
noncomputable def m_kept_by : Fn := fnD 2 10
    (sSeq (sSet 2 (eRg1 mkL (eUn lenF (eVar 0))))
    (sSeq (sSet 3 (eUn listF (eVar 1)))
    (sSeq (sWhile kept_by_T1 kept_by_W1)
    (sRet (eCall m_numbered (aCons (eVar 2) aNil))))))
theorem set_app {M es : Mem} {i : Nat} (h : M.length ≤ i) (u : Ob) : ∃ es', (M ++ es).set i u = M ++ es' := ⟨es.set (i - M.length) u, List.set_append_right i u h⟩
theorem pop_last {M : Mem} {q : Nat} {xs : List D} {d : D} (h : M[q]? = some (.lst (xs ++ [d]))) : pop0F (.v (.ref q)) M = some (.v d, M.set q (.lst xs)) := by
  simp [pop0F, h]
theorem keptby_w {m : List (List Nat)} {l : Nat} (hm : Mach m l) (h0 : 0 < m.length) (hb : m.length ≤ 26) (hl : l ≤ 6) {ps : List P2} (hp : ∀ p ∈ ps, p.1 < m.length ∧ p.2 < m.length) (hpl : ps.length ≤ 1000) {x : D} {M : Mem} (hx : ∀ e : Mem, listF (.v x) (M ++ e) = some (.o (.lst (ps.map pairD)), M ++ e)) {K : PO2} (k : ∀ c, KB m l ps c [] → K (.v (tN (numN c))) M) : WO (m_kept_by [tM m, x] M) K := by
  unfold m_kept_by
  simp only [wp, wx, wf, Nat.reduceSub, len_tM]
  refine ⟨rg_nat (by omega), ?_⟩
  rw [Int.toNat_natCast, upto_nats]
  have hx1 := hx [Ob.lst ((List.range m.length).map fun (r : Nat) => D.int (r : Int))]
  simp only [wp, wx, mkL, hx1]
  refine wfu (fun n ρ M' => ∃ es q c ws x4 x5 x6 x7, M' = M ++ es ∧ KB m l ps c ws ∧ n = ws.length + 7 * dist m.length c ∧ n ≤ ps.length + 7 * 26 ∧ q ≠ M.length + 1 ∧ M'[q]? = some (.lst (nats c)) ∧ M'[M.length + 1]? = some (.lst (ws.map pairD)) ∧ ρ = [some (tM m), some x, some (.ref q), some (.ref (M.length + 1)), x4, x5, x6, x7, none, none]) (n0 := ps.length + 7 * dist m.length (List.range m.length)) (by have := dist_le m.length (List.range m.length); omega) ?_ (fun n ρ M' j => ?_)
  · have := dist_le m.length (List.range m.length)
    refine ⟨[_, _], M.length, List.range m.length, ps, none, none, none, none, by rw [List.append_assoc]; rfl, KB.start hp, rfl, by omega, by omega, get_app (get_end rfl), get_end (by simp), ?_⟩
    simp
  · obtain ⟨es, q, c, ws, x4, x5, x6, x7, rfl, hkb, hn, hnb, hqw, hq, hw, rfl⟩ := j
    simp only [wp, wx, w_kept_by_T1, len_ref hw, gtF, cmp_int, List.length_map]
    cases hws : ws with
    | nil =>
      subst hws
      simp only [List.length_nil, Int.natCast_zero, Int.lt_irrefl, decide_false, kWh_f, wp, wx]
      have hcl := hkb.len
      refine prog_numbered_w hq (by omega) ?_
      simp only [wp, wx]
      rw [kFn_va (by simp)]
      exact k c hkb
    | cons w0 wt =>
      rw [← hws]
      have hwne : ws ≠ [] := by rw [hws]; simp
      obtain ⟨p, wr, e⟩ : ∃ p wr, ws = wr ++ [p] := ⟨ws.getLast hwne, ws.dropLast, (List.dropLast_concat_getLast hwne).symm⟩
      clear hws
      subst e
      have hlt : (0 : Int) < ((wr ++ [p]).length : Int) := by rw [List.length_append]; simp only [List.length_cons, List.length_nil]; omega
      simp only [hlt, decide_true, kWh_t, wp, wx, w_kept_by_W1]
      have hw' : (M ++ es)[M.length + 1]? = some (.lst (wr.map pairD ++ [pairD p])) := by rw [hw]; simp
      have hpo := hkb.wok p (by simp)
      have hcl := hkb.len
      have hp1 : p.1 < c.length := by omega
      have hp2 : p.2 < c.length := by omega
      have hq2 : ∀ u : Ob, ((M ++ es).set (M.length + 1) u)[q]? = some (.lst (nats c)) := fun u => by rw [List.getElem?_set_ne (by omega)]; exact hq
      have hw2 : ∀ u : Ob, ((M ++ es).set (M.length + 1) u)[M.length + 1]? = some u := fun u => get_put hw
      simp only [wp, wx, isT_ref hw', pop_last hw']
      simp only [pairD, tN, nats, List.map_cons, List.map_nil, wp, wx]
      have i1 := fun u => ixn_at (hq2 u) hp1
      have i2 := fun u => ixn_at (hq2 u) hp2
      simp only [i1, i2, wp, wx, ne_int]
      have hset : ∀ u : Ob, ∃ es', (M ++ es).set (M.length + 1) u = M ++ es' := fun u => set_app (by omega) u
      by_cases heq : c[p.1] = c[p.2]
      · have : ((c[p.1] : Nat) : Int) = ((c[p.2] : Nat) : Int) := by omega
        simp only [this, decide_true, Bool.not_true, wp, wx]
        obtain ⟨es', e'⟩ := hset (.lst (wr.map pairD))
        have hk' : KB m l ps c wr := hkb.same (by rw [getD_get hp1, getD_get hp2]; exact heq)
        have hlen : (wr ++ [p]).length = wr.length + 1 := by simp
        exact ⟨wr.length + 7 * dist m.length c, by omega, es', q, c, wr, _, _, _, _, e', hk', rfl, by omega, hqw, hq2 _, hw2 _, rfl⟩
      · have : ¬ ((c[p.1] : Nat) : Int) = ((c[p.2] : Nat) : Int) := by omega
        simp only [this, decide_false, Bool.not_false, wp, wx]
        have hset2 := hset (.lst (wr.map pairD))
        have hqa := hq2 (.lst (wr.map pairD))
        have hwa := hw2 (.lst (wr.map pairD))
        obtain ⟨es', e'⟩ := hset2
        rw [e'] at hqa hwa ⊢
        simp only [src_ref hqa, wp, wx]
        refine wc_mapL3 (fun (o : Nat) => D.int (o : Int)) (fun (o : Nat) => D.int ((if o = c[p.2] then c[p.1] else o : Nat) : Int)) c (chk_one hqa) (fun o ho => ?_) ?_
        · simp only [wp, wx, w_kept_by_E2, eq_int]
          by_cases h : o = c[p.2]
          · have h' : ((o : Nat) : Int) = ((c[p.2] : Nat) : Int) := by omega
            simp only [h', decide_true, wp, wx, if_pos h]
            exact ⟨rfl, rfl⟩
          · have h' : ¬ ((o : Nat) : Int) = ((c[p.2] : Nat) : Int) := by omega
            simp only [h', decide_false, wp, wx, if_neg h]
            exact ⟨rfl, rfl⟩
        have em : (c.map fun (o : Nat) => D.int ((if o = c[p.2] then c[p.1] else o : Nat) : Int)) = nats (mrgC c p) := by
          simp only [mrgC, nats, List.map_map]
          rw [getD_get hp1, getD_get hp2]
          rfl
        rw [em]
        have hwb : ∀ u : Ob, (M ++ es' ++ [u])[M.length + 1]? = some (.lst (wr.map pairD)) := fun u => get_app hwa
        simp only [wp, wx, isT_ref (hwb _), letters_eq hm h0]
        refine ⟨rg_nat (by omega), ?_⟩
        rw [Int.toNat_natCast, upto_nats]
        refine wc_map (fun (a : Nat) => D.int (a : Int)) (fun (a : Nat) => pairD (stp m p.1 a, stp m p.2 a)) (List.range l) (fun a ha => ?_) ?_
        · have ha' := List.mem_range.mp ha
          simp only [wp, wx, w_kept_by_E1, ix_row hpo.1, ix_row hpo.2, ix_stp hm hpo.1 ha', ix_stp hm hpo.2 ha']
          exact ⟨rfl, rfl⟩
        have el : ((List.range l).map fun (a : Nat) => pairD (stp m p.1 a, stp m p.2 a)) = (lets m l p).map pairD := by simp [lets, Function.comp_def]
        rw [el]
        have hlen : (wr ++ [p]).length = wr.length + 1 := by simp
        have hll : (lets m l p).length = l := by simp [lets]
        simp only [wp, wx, ext_ref (hwb _) (show (wr.map pairD).length + ((lets m l p).map pairD).length ≤ 90000 by simp only [List.length_map]; omega)]
        have hgc : ∀ u : Ob, (M ++ es' ++ [u])[(M ++ es').length]? = some u := fun u => get_end rfl
        have hlw := get_lt hwa
        have hd := dist_merge hcl hkb.vals hpo (by rw [getD_get hp1, getD_get hp2]; exact heq)
        obtain ⟨es2, e2⟩ := set_app (M := M) (es := es' ++ [Ob.lst (nats (mrgC c p))]) (i := M.length + 1) (by omega) (.lst (wr.map pairD ++ (lets m l p).map pairD))
        rw [← List.append_assoc] at e2
        refine ⟨(wr ++ lets m l p).length + 7 * dist m.length (mrgC c p), ?_, es2, (M ++ es').length, mrgC c p, wr ++ lets m l p, _, _, _, _, e2, hkb.merge hm, rfl, ?_, by omega, ?_, ?_, rfl⟩
        · rw [List.length_append, hll]; omega
        · rw [List.length_append, hll]; omega
        · rw [List.getElem?_set_ne (by omega)]; exact hgc _
        · rw [List.map_append]; exact get_put (hwb _)
theorem num_get {c : List Nat} {x y : Nat} (hx : x < c.length) (hy : y < c.length) : (numN c).getD x 0 = (numN c).getD y 0 ↔ c.getD x 0 = c.getD y 0 := by
  rw [numN_eq hx hy, getD_get hx, getD_get hy]
theorem kpt_num {m : List (List Nat)} {l : Nat} (hm : Mach m l) {c : List Nat} (hc : c.length = m.length) (h : Kpt m l fun x => c.getD x 0) : Kpt m l fun x => (numN c).getD x 0 := fun x y a hx hy ha e => by
  have h1 := stp_lt hm hx ha
  have h2 := stp_lt hm hy ha
  rw [← hc] at hx hy h1 h2
  exact (num_get h1 h2).mpr (h x y a (by omega) (by omega) ha ((num_get hx hy).mp e))
theorem prtn_num {m : List (List Nat)} {c : List Nat} (hc : c.length = m.length) : Prtn m.length (numN c) (firstsN c).length := hc ▸ numN_prtn c
theorem firstsN_pos {c : List Nat} (h : 0 < c.length) : 0 < (firstsN c).length := by
  have h1 := ((firstsN_mem c).1 c[0]).mpr (List.getElem_mem h)
  exact List.length_pos_of_mem h1
/-! ### dicts whose values are all alike, by pairs -/
theorem dv_look (v : D) : ∀ (G : List P2) (p : P2), dlook (G.map fun q => (pairD q, v)) (pairD p) = if p ∈ G then some v else none
  | [], p => by simp [dlook_nil]
  | q :: G, p => by
    rw [List.map_cons, dlook_cons]
    by_cases e : q = p
    · subst e; simp
    · have : pairD q ≠ pairD p := fun z => e (pairD_inj z)
      rw [if_neg this, dv_look v G p]
      simp [Ne.symm e]
theorem dv_pairs (v : D) : ∀ G : List P2, pairsD (G.map fun p => D.tup [pairD p, v]) = some (G.map fun p => (pairD p, v))
  | [] => rfl
  | p :: G => by
    have e : prOf (.tup [pairD p, v]) = some (pairD p, v) := by simp [prOf, key_pair]
    simp only [List.map_cons, pairsD, e, Option.bind_some, dv_pairs v G, Option.map_some]
def addP (R : List P2) (p : P2) : List P2 := if p ∈ R then R else R ++ [p]
theorem addP_nd {R : List P2} (h : R.Nodup) (p : P2) : (addP R p).Nodup := by
  unfold addP
  split
  · exact h
  · rename_i hp
    rw [List.nodup_append]
    exact ⟨h, by simp, fun a ha b hb => by simp at hb; subst hb; exact fun z => hp (z ▸ ha)⟩
theorem addP_mem {R : List P2} {p q : P2} : q ∈ addP R p ↔ q ∈ R ∨ q = p := by
  unfold addP
  split
  · exact ⟨.inl, fun h => by rcases h with h | rfl <;> assumption⟩
  · simp
theorem dv_sto (v : D) (R : List P2) (p : P2) : dsto (R.map fun q => (pairD q, v)) (pairD p) v = (addP R p).map fun q => (pairD q, v) := by
  unfold addP
  by_cases hp : p ∈ R
  · rw [if_pos hp]
    unfold dsto
    rw [dv_look, if_pos hp, Option.isSome_some, if_pos rfl, List.map_map]
    refine List.map_congr_left fun q _ => ?_
    simp
  · rw [if_neg hp, dsto_new (by rw [dv_look, if_neg hp])]
    simp
def dedP (ps : List P2) : List P2 := ps.foldl addP []
theorem dedP_nd (ps : List P2) : (dedP ps).Nodup := by
  have : ∀ (ps R : List P2), R.Nodup → (ps.foldl addP R).Nodup := by
    intro ps
    induction ps with
    | nil => intro R h; exact h
    | cons p ps ih => intro R h; exact ih _ (addP_nd h p)
  exact this ps [] (by simp)
theorem dedP_mem {ps : List P2} {q : P2} : q ∈ dedP ps ↔ q ∈ ps := by
  have : ∀ (ps R : List P2), q ∈ ps.foldl addP R ↔ q ∈ R ∨ q ∈ ps := by
    intro ps
    induction ps with
    | nil => intro R; simp
    | cons p ps ih =>
      intro R
      rw [List.foldl_cons, ih, addP_mem, List.mem_cons, or_assoc]
  have h := this ps []
  unfold dedP
  simpa using h
theorem dv_dict (v : D) (ps : List P2) (M : Mem) : dictF (.o (.lst (ps.map fun p => D.tup [pairD p, v]))) M = some (.o (.dcr ((dedP ps).map fun p => (pairD p, v))), M) := by
  have h : ∀ (ps R : List P2), dstoL (R.map fun p => (pairD p, v)) (ps.map fun p => (pairD p, v)) = (ps.foldl addP R).map fun p => (pairD p, v) := by
    intro ps
    induction ps with
    | nil => intro R; simp [dstoL]
    | cons p ps ih =>
      intro R
      have := ih (addP R p)
      simp only [dstoL, List.map_cons, List.foldl_cons] at this ⊢
      rw [dv_sto, this]
  have h0 := h ps []
  simp only [List.map_nil] at h0
  simp only [dictF, lstOf, Option.bind_some, dv_pairs, Option.map_some, h0]
  rfl
theorem dv_din (v : D) {G : List P2} {q : Nat} {M : Mem} (h : M[q]? = some (.dcr (G.map fun p => (pairD p, v)))) (p : P2) (neg : Bool) : dinF neg (.v (pairD p)) (.v (.ref q)) M = some (.v (.bl (if neg then !decide (p ∈ G) else decide (p ∈ G))), M) := by
  have e : (if p ∈ G then some v else none).isSome = decide (p ∈ G) := by split <;> simp [*]
  simp only [dinF, dctOf, h, Option.bind_some, key_pair, dv_look, e]
theorem dv_put (v : D) {G : List P2} {q : Nat} {M : Mem} (h : M[q]? = some (.dcr (G.map fun p => (pairD p, v)))) (p : P2) (hl : G.length ≤ 90000) : dstoF (.v (.ref q)) (.v (pairD p)) v M = some (M.set q (.dcr ((addP G p).map fun p => (pairD p, v)))) := by
  have hf : fits ((G.map fun p => (pairD p, v)).length + 1) := fits_of (by simp; omega)
  simp only [dstoF, h, key_pair, Option.bind_some, if_pos hf, dv_sto]
/-- all pairs of numbers below n -/
def sqP (n : Nat) : List P2 := (List.range n).flatMap fun a => (List.range n).map fun b => (a, b)
theorem sqP_len (n : Nat) : (sqP n).length = n * n := by simp [sqP, List.length_flatMap, List.map_const']
theorem sqP_mem {n : Nat} {p : P2} (h : p.1 < n ∧ p.2 < n) : p ∈ sqP n := List.mem_flatMap.mpr ⟨p.1, List.mem_range.mpr h.1, List.mem_map.mpr ⟨p.2, List.mem_range.mpr h.2, rfl⟩⟩
theorem nd_sq {n : Nat} {R : List P2} (hn : R.Nodup) (h : ∀ p ∈ R, p.1 < n ∧ p.2 < n) (hb : n ≤ 26) : R.length ≤ 676 := by
  have := nodup_len (U := sqP n) hn fun p hp => sqP_mem (h p hp)
  rw [sqP_len] at this
  have h2 : n * n ≤ 26 * 26 := Nat.mul_le_mul hb hb
  omega
noncomputable def _law_joined_E1 (ρ : Env) (m : Mem) : Option (Out × Mem) := (eIf (bOf (eBin eqF (eVar 10) (eBin ixF (eVar 5) (eVar 8)))) (eBin ixF (eVar 5) (eVar 7)) (eVar 10)) ρ m
theorem w__law_joined_E1 {ρ : Env} {M : Mem} {Q : PO2} : WE _law_joined_E1 ρ M Q ↔ WE (eIf (bOf (eBin eqF (eVar 10) (eBin ixF (eVar 5) (eVar 8)))) (eBin ixF (eVar 5) (eVar 7)) (eVar 10)) ρ M Q := Iff.rfl
noncomputable def _law_joined_F1 (ρ : Env) (m : Mem) : Option R := (sSet 5 (eComp (iE (eVar 5)) [10] (.nm 10) bYes _law_joined_E1)) ρ m
theorem w__law_joined_F1 {ρ : Env} {M : Mem} {Q : R → Prop} : WS _law_joined_F1 ρ M Q ↔ WS (sSet 5 (eComp (iE (eVar 5)) [10] (.nm 10) bYes _law_joined_E1)) ρ M Q := Iff.rfl
noncomputable def _law_joined_F2 (ρ : Env) (m : Mem) : Option R := (sIf (bOf (eBin (dinF true) (eVar 6) (eVar 3))) (sSeq (sPut (eC (.bl true)) (gDx (eVar 3) (eVar 6)))
    (sDo (eMt1 "list" appF (eVar 2) (eVar 6)))) sNil) ρ m
theorem w__law_joined_F2 {ρ : Env} {M : Mem} {Q : R → Prop} : WS _law_joined_F2 ρ M Q ↔ WS (sIf (bOf (eBin (dinF true) (eVar 6) (eVar 3))) (sSeq (sPut (eC (.bl true)) (gDx (eVar 3) (eVar 6)))
    (sDo (eMt1 "list" appF (eVar 2) (eVar 6)))) sNil) ρ M Q := Iff.rfl
noncomputable def _law_joined_T1 (ρ : Env) (m : Mem) : Option (Bool × Mem) := (bOf (eBin ltF (eVar 4) (eUn lenF (eVar 2)))) ρ m
theorem w__law_joined_T1 {ρ : Env} {M : Mem} {Q : Bool → Mem → Prop} : WB _law_joined_T1 ρ M Q ↔ WB (bOf (eBin ltF (eVar 4) (eUn lenF (eVar 2)))) ρ M Q := Iff.rfl
noncomputable def _law_joined_W1 (ρ : Env) (m : Mem) : Option R := (sSeq (sFor (iZpk (eBin ixF (eVar 0) (eBin ixF (eBin ixF (eVar 2) (eVar 4)) (eC (.int 0)))) (eBin ixF (eVar 0) (eBin ixF (eBin ixF (eVar 2) (eVar 4)) (eC (.int 1))))) (gT (.nm 6)) _law_joined_F2)
    (sSet 4 (eBin addF (eVar 4) (eC (.int 1))))) ρ m
theorem w__law_joined_W1 {ρ : Env} {M : Mem} {Q : R → Prop} : WS _law_joined_W1 ρ M Q ↔ WS (sSeq (sFor (iZpk (eBin ixF (eVar 0) (eBin ixF (eBin ixF (eVar 2) (eVar 4)) (eC (.int 0)))) (eBin ixF (eVar 0) (eBin ixF (eBin ixF (eVar 2) (eVar 4)) (eC (.int 1))))) (gT (.nm 6)) _law_joined_F2)
    (sSet 4 (eBin addF (eVar 4) (eC (.int 1))))) ρ M Q := Iff.rfl
noncomputable def _law_joined_E2 (ρ : Env) (m : Mem) : Option (Out × Mem) := (eTup (aCons (eVar 9) (aCons (eC (.bl true)) aNil))) ρ m
theorem w__law_joined_E2 {ρ : Env} {M : Mem} {Q : PO2} : WE _law_joined_E2 ρ M Q ↔ WE (eTup (aCons (eVar 9) (aCons (eC (.bl true)) aNil))) ρ M Q := Iff.rfl
noncomputable def m__law_joined : Fn := fnD 2 11
    (sSeq (sSet 2 (eUn listF (eVar 1)))
    (sSeq (sSet 3 (eUn dictF (eComp (iE (eVar 1)) [9] (.nm 9) bYes _law_joined_E2)))
    (sSeq (sSet 4 (eC (.int 0)))
    (sSeq (sWhile _law_joined_T1 _law_joined_W1)
    (sSeq (sSet 5 (eRg1 mkL (eUn lenF (eVar 0))))
    (sSeq (sFor (iE (eVar 2)) (gT (.tp [7, 8])) _law_joined_F1)
    (sRet (eCall m__law_numbered (aCons (eVar 5) aNil)))))))))
/-- a pair that words lead to from some pairs -/
inductive DerJ (m : List (List Nat)) (l : Nat) (ps : List P2) : P2 → Prop where
  | base {p : P2} : p ∈ ps → DerJ m l ps p
  | step {p : P2} {a : Nat} : DerJ m l ps p → a < l → DerJ m l ps (stp m p.1 a, stp m p.2 a)
structure ClsJ (m : List (List Nat)) (l : Nat) (ps row : List P2) : Prop where
  sub : ∀ p ∈ ps, p ∈ row
  der : ∀ p ∈ row, DerJ m l ps p
  cl : ∀ p ∈ row, ∀ a, a < l → (stp m p.1 a, stp m p.2 a) ∈ row
section
variable {m : List (List Nat)} {l : Nat} {ps row : List P2}
theorem DerJ.ok (hm : Mach m l) (hp : ∀ p ∈ ps, p.1 < m.length ∧ p.2 < m.length) {p : P2} (h : DerJ m l ps p) : p.1 < m.length ∧ p.2 < m.length := by
  induction h with
  | base h => exact hp _ h
  | step _ ha ih => exact ⟨stp_lt hm ih.1 ha, stp_lt hm ih.2 ha⟩
theorem DerJ.tog (hm : Mach m l) (hp : ∀ p ∈ ps, p.1 < m.length ∧ p.2 < m.length) {g : Nat → Nat} (hk : Kpt m l g) (ht : Tog ps g) {p : P2} (h : DerJ m l ps p) : g p.1 = g p.2 := by
  induction h with
  | base h => exact ht _ h
  | step h ha ih => exact hk _ _ _ (h.ok hm hp).1 (h.ok hm hp).2 ha ih
/-- merging keeps what is together, and joins only what must be -/
theorem mrg_agr {n : Nat} {c : List Nat} {p : P2} (hc : c.length = n) (hp : p.1 < n ∧ p.2 < n) {g : Nat → Nat} (ha : Agr n c g) (hg : g p.1 = g p.2) : Agr n (mrgC c p) g := fun x y hx hy e => by
  rcases mrgC_eq (c := c) (p := p) (by omega) (by omega) (by omega) e with e | ⟨e1, e2⟩ | ⟨e1, e2⟩
  · exact ha x y hx hy e
  · rw [ha x p.2 hx hp.2 e1, ← hg, ha y p.1 hy hp.1 e2]
  · rw [ha x p.1 hx hp.1 e1, hg, ha y p.2 hy hp.2 e2]
theorem mrg_keep {c : List Nat} {p : P2} {x y : Nat} (hx : x < c.length) (hy : y < c.length) (e : c.getD x 0 = c.getD y 0) : (mrgC c p).getD x 0 = (mrgC c p).getD y 0 := by rw [mrgC_get hx, mrgC_get hy, e]
theorem mrg_tog {c : List Nat} {p : P2} (hp : p.1 < c.length ∧ p.2 < c.length) : (mrgC c p).getD p.1 0 = (mrgC c p).getD p.2 0 := by
  rw [mrgC_get hp.1, mrgC_get hp.2]
  by_cases e : c.getD p.1 0 = c.getD p.2 0 <;> simp [e]
theorem mrg_len (c : List Nat) (p : P2) : (mrgC c p).length = c.length := by simp [mrgC]
theorem mrg_vals {n : Nat} {c : List Nat} {p : P2} (hc : c.length = n) (hp : p.1 < n ∧ p.2 < n) (hv : ∀ v ∈ c, v < n) : ∀ v ∈ mrgC c p, v < n := fun v h => by
  obtain ⟨o, ho, rfl⟩ := List.mem_map.mp h
  split
  · refine hv _ ?_
    rw [show c.getD p.1 0 = c[p.1]'(by omega) by simp [List.getD, show p.1 < c.length by omega]]
    exact List.getElem_mem _
  · exact hv _ ho
def mrgAll (n : Nat) (row : List P2) : List Nat := row.foldl mrgC (List.range n)
structure MA (n : Nat) (row : List P2) (c : List Nat) : Prop where
  len : c.length = n
  vals : ∀ v ∈ c, v < n
  tog : Tog row fun x => c.getD x 0
  least : ∀ g, Tog row g → Agr n c g
theorem ma_all {n : Nat} (hr : ∀ p ∈ row, p.1 < n ∧ p.2 < n) : MA n row (mrgAll n row) := by
  induction row using snocRec with
  | nil => exact ⟨by simp [mrgAll], fun v hv => List.mem_range.mp (by simpa [mrgAll] using hv), fun p hp => by simp at hp, fun g _ x y hx hy e => by simp only [mrgAll, List.foldl_nil] at e; rw [range_getD hx, range_getD hy] at e; rw [e]⟩
  | snoc row p ih =>
    have ih := ih fun q hq => hr q (by simp [hq])
    have hp := hr p (by simp)
    have e : mrgAll n (row ++ [p]) = mrgC (mrgAll n row) p := by simp [mrgAll]
    rw [e]
    have hpl : p.1 < (mrgAll n row).length ∧ p.2 < (mrgAll n row).length := by rw [ih.len]; exact hp
    refine ⟨by rw [mrg_len, ih.len], mrg_vals ih.len hp ih.vals, fun q hq => ?_, fun g hg => mrg_agr ih.len hp (ih.least g fun q hq => hg q (by simp [hq])) (hg p (by simp))⟩
    rcases List.mem_append.mp hq with hq | hq
    · have := hr q (by simp [hq])
      exact mrg_keep (by rw [ih.len]; exact this.1) (by rw [ih.len]; exact this.2) (ih.tog q hq)
    · simp at hq; subst hq; exact mrg_tog hpl
theorem cls_kb (hm : Mach m l) (hp : ∀ p ∈ ps, p.1 < m.length ∧ p.2 < m.length) (C : ClsJ m l ps row) : KB m l ps (mrgAll m.length row) [] := by
  have A := ma_all (n := m.length) fun p hr => (C.der p hr).ok hm hp
  refine ⟨A.len, A.vals, fun p hp => by simp at hp, fun f ha _ x y a hx hy hal e => ?_, fun f ha _ p hps => ?_, fun g hk ht => ⟨A.least g fun p hr => (C.der p hr).tog hm hp hk ht, fun p hp => by simp at hp⟩⟩
  · refine A.least (fun x => f (stp m x a)) (fun p hr => ?_) x y hx hy e
    have h1 := C.cl p hr a hal
    have h2 := (C.der _ h1).ok hm hp
    exact ha _ _ h2.1 h2.2 (A.tog _ h1)
  · have h1 := C.sub p hps
    have h2 := hp p hps
    exact ha _ _ h2.1 h2.2 (A.tog _ h1)
/-- what has been found when the place at_ is looked at, i letters of it -/
structure JJ (m : List (List Nat)) (l : Nat) (ps ex : List P2) (at_ i : Nat) : Prop where
  nd : (dedP ps ++ ex).Nodup
  der : ∀ p ∈ ps ++ ex, DerJ m l ps p
  cl : ∀ (j : Nat) (p : P2), j < at_ → (ps ++ ex)[j]? = some p → ∀ a, a < l → (stp m p.1 a, stp m p.2 a) ∈ ps ++ ex
  cl2 : ∀ (p : P2), (ps ++ ex)[at_]? = some p → ∀ a, a < i → (stp m p.1 a, stp m p.2 a) ∈ ps ++ ex
theorem JJ.len {ex : List P2} {at_ i : Nat} (J : JJ m l ps ex at_ i) (hm : Mach m l) (hp : ∀ p ∈ ps, p.1 < m.length ∧ p.2 < m.length) (hb : m.length ≤ 26) : (dedP ps ++ ex).length ≤ 676 := nd_sq J.nd (fun p h => (J.der p (by
  rcases List.mem_append.mp h with h | h
  · exact List.mem_append_left _ (dedP_mem.mp h)
  · exact List.mem_append_right _ h)).ok hm hp) hb
theorem zip_pk (hm : Mach m l) {x y : Nat} (h1 : x < m.length) (h2 : y < m.length) : zpkOf (.v (tN m[x])) (.v (tN m[y])) = some ⟨(List.range l).map fun a => pairD (stp m x a, stp m y a), []⟩ := by
  have gen : ∀ (u v : List Nat), zipT (nats u) (nats v) = (u.zip v).map pairD := by
    intro u
    induction u with
    | nil => intro v; simp [nats, zipT]
    | cons a u ih =>
      intro v
      cases v with
      | nil => simp [nats, zipT]
      | cons b v =>
        have := ih v
        simp only [nats] at this
        simp [nats, zipT, this, pairD, tN]
  simp only [zpkOf, tN, gen]
  congr 2
  have e1 := hm.row h1
  have e2 := hm.row h2
  apply List.ext_getElem
  · simp [e1, e2]
  · intro i hi1 hi2
    have hi : i < l := by simpa using hi2
    simp only [List.getElem_map, List.getElem_zip, List.getElem_range, stp_eq hm h1 hi, stp_eq hm h2 hi]
theorem put_prj {i j : Nat} {p : P2} {ρ : Env} : Tg.put (.tp [i, j]) (pairD p) ρ = some ((ρ.set i (some (.int (p.1 : Int)))).set j (some (.int (p.2 : Int)))) := rfl
theorem ljoined_w (hm : Mach m l) (h0 : 0 < m.length) (hb : m.length ≤ 26) (hl : l ≤ 6) (hp : ∀ p ∈ ps, p.1 < m.length ∧ p.2 < m.length) (hpl : ps.length ≤ 1000) {M : Mem} {q : Nat} (hq : M[q]? = some (.lst (ps.map pairD))) {K : PO2}
    (k : ∀ c, KB m l ps c [] → K (.v (tN (numN c))) M) : WO (m__law_joined [tM m, .ref q] M) K := by
  have hqM := get_lt hq
  have el : ∀ M : Mem, M[q]? = some (.lst (ps.map pairD)) → listF (.v (.ref q)) M = some (.o (.lst (ps.map pairD)), M) := fun M h => by simp [listF, seqOf, h]
  unfold m__law_joined
  have hq1 : (M ++ [Ob.lst (ps.map pairD)])[q]? = some (.lst (ps.map pairD)) := get_app hq
  simp only [wp, wx, wf, Nat.reduceSub, el M hq, src_ref hq1]
  refine wc_mapL3 pairD (fun p => D.tup [pairD p, .bl true]) ps (chk_one hq1) (fun p _ => ?_) ?_
  · simp only [wp, wx, w__law_joined_E2]
    exact ⟨rfl, rfl⟩
  have hlen1 : (M ++ [Ob.lst (ps.map pairD)]).length = M.length + 1 := by simp
  simp only [wp, wx, dv_dict, hlen1]
  have eM : ∀ u v : Ob, M ++ [u] ++ [v] = M ++ [u, v] := fun u v => by simp
  rw [eM]
  have g1 : ∀ (u v : Ob), (M ++ [v, u])[M.length + 1]? = some u := fun u v => by rw [gmk]; rfl
  have g2 : ∀ (u v : Ob), (M ++ [v, u])[M.length]? = some v := fun u v => by rw [gm0]; rfl
  have s1 : ∀ (u v o : Ob), (M ++ [v, u]).set (M.length + 1) o = M ++ [v, o] := fun u v o => by rw [smk]; rfl
  have s2 : ∀ (u v o : Ob), (M ++ [v, u]).set (M.length) o = M ++ [o, u] := fun u v o => by rw [sm0]; rfl
  refine wfu (n0 := 2000) (fun n ρ M' => ∃ at_ ex y6, n = 2000 - at_ ∧ at_ ≤ (ps ++ ex).length ∧ JJ m l ps ex at_ 0 ∧ ρ = [some (tM m), some (.ref q), some (.ref M.length), some (.ref (M.length + 1)), some (.int (at_ : Int)), none, y6, none, none, none, none] ∧ M' = M ++ [.lst ((ps ++ ex).map pairD), .dcr ((dedP ps ++ ex).map fun p => (pairD p, .bl true))]) (by omega) ⟨0, [], none, rfl, Nat.zero_le _, ⟨by simpa using dedP_nd ps, fun p h => .base (by simpa using h), fun j p hj => by omega, fun p _ a ha => by omega⟩, by simp, by simp⟩ (fun n ρ M' j => ?_)
  obtain ⟨at_, ex, y6, rfl, hat, J, rfl, rfl⟩ := j
  have hJl := J.len hm hp hb
  have hrl : (ps ++ ex).length ≤ 1676 := by simp at hJl ⊢; omega
  simp only [wp, wx, w__law_joined_T1, len_ref (g2 _ _), ltF, cmp_int, List.length_map]
  by_cases hlt : at_ < (ps ++ ex).length
  · have hlt' : (at_ : Int) < ((ps ++ ex).length : Int) := by omega
    have hr : (ps ++ ex)[at_]? = some (ps ++ ex)[at_] := List.getElem?_eq_getElem hlt
    generalize (ps ++ ex)[at_] = r at hr
    have hrd := J.der r (List.mem_of_getElem? hr)
    obtain ⟨hr1, hr2⟩ := hrd.ok hm hp
    have eix : ∀ (u : Ob), ixF (.v (.ref M.length)) (.v (.int (at_ : Int))) (M ++ [.lst ((ps ++ ex).map pairD), u]) = some (.v (pairD r), M ++ [.lst ((ps ++ ex).map pairD), u]) := fun u => by
      have hl2 : at_ < ((ps ++ ex).map pairD).length := by simpa using hlt
      simp only [ixF, seqOf, g2, Option.bind_some]
      rw [atI_get _ _ hl2]
      have : ((ps ++ ex).map pairD)[at_]? = some (pairD r) := by rw [List.getElem?_map, hr]; rfl
      rw [List.getElem?_eq_getElem hl2] at this
      simp only [Option.some.injEq] at this
      rw [this]; rfl
    simp only [hlt', decide_true, wc, w__law_joined_W1, wp, wx, wzn, eix, ix_p0, ix_p1, ix_row hr1, ix_row hr2, zip_pk hm hr1 hr2]
    refine wl_typ (fun a => pairD (stp m r.1 a, stp m r.2 a)) (List.range l) (fun i ρ M' => ∃ ex' y6, JJ m l ps ex' at_ i ∧ (ps ++ ex')[at_]? = some r ∧ ρ = [some (tM m), some (.ref q), some (.ref M.length), some (.ref (M.length + 1)), some (.int (at_ : Int)), none, y6, none, none, none, none] ∧ M' = M ++ [.lst ((ps ++ ex').map pairD), .dcr ((dedP ps ++ ex').map fun p => (pairD p, .bl true))]) ⟨ex, y6, J, hr, rfl, rfl⟩ (fun i hi ρ M' j => ?_) (fun ρ M' j => ?_)
    · obtain ⟨ex', y6', J', hr', rfl, rfl⟩ := j
      have hil : i < l := by simpa using hi
      have hJl' := J'.len hm hp hb
      rw [List.getElem_range]
      have hin : ((stp m r.1 i, stp m r.2 i) ∈ dedP ps ++ ex') ↔ ((stp m r.1 i, stp m r.2 i) ∈ ps ++ ex') := by rw [List.mem_append, List.mem_append, dedP_mem]
      simp only [wp, wx, w__law_joined_F2, dv_din _ (g1 _ _), if_true]
      by_cases hmem : (stp m r.1 i, stp m r.2 i) ∈ dedP ps ++ ex'
      · simp only [hmem, decide_true, Bool.not_true, wp, wx]
        refine ⟨ex', _, ⟨J'.nd, J'.der, J'.cl, fun p e a ha => ?_⟩, hr', rfl, rfl⟩
        by_cases hai : a < i
        · exact J'.cl2 p e a hai
        · have : a = i := by omega
          subst this
          rw [hr'] at e; cases e
          exact hin.mp hmem
      · have hadd : addP (dedP ps ++ ex') (stp m r.1 i, stp m r.2 i) = dedP ps ++ (ex' ++ [(stp m r.1 i, stp m r.2 i)]) := by unfold addP; rw [if_neg hmem, List.append_assoc]
        have happ : ((ps ++ ex').map pairD).length ≤ 90000 := by simp at hJl' ⊢; omega
        simp only [hmem, decide_false, Bool.not_false, wp, wx, dv_put _ (g1 _ _) _ (show (dedP ps ++ ex').length ≤ 90000 by omega), s1, hadd, isT_ref (g2 _ _), app_ref (g2 _ _) happ, s2]
        have hr2' : (ps ++ (ex' ++ [(stp m r.1 i, stp m r.2 i)]))[at_]? = some r := by rw [← List.append_assoc, List.getElem?_append_left (List.getElem?_eq_some_iff.mp hr').1]; exact hr'
        refine ⟨ex' ++ [(stp m r.1 i, stp m r.2 i)], _, ⟨?_, fun p hpm => ?_, fun j p hj e a ha => ?_, fun p e a ha => ?_⟩, hr2', rfl, by simp⟩
        · have := addP_nd J'.nd (stp m r.1 i, stp m r.2 i)
          rwa [hadd] at this
        · rw [← List.append_assoc] at hpm
          rcases List.mem_append.mp hpm with hpm | hpm
          · exact J'.der p hpm
          · simp only [List.mem_singleton] at hpm
            subst hpm
            exact .step (J'.der r (List.mem_of_getElem? hr')) hil
        · have hlt2 := (List.getElem?_eq_some_iff.mp hr').1
          rw [← List.append_assoc, List.getElem?_append_left (by omega)] at e
          rw [← List.append_assoc]
          exact List.mem_append_left _ (J'.cl j p hj e a ha)
        · rw [hr2'] at e; cases e
          by_cases hai : a < i
          · rw [← List.append_assoc]
            exact List.mem_append_left _ (J'.cl2 r hr' a hai)
          · have : a = i := by omega
            subst this
            simp
    · obtain ⟨ex', y6', J', hr', rfl, rfl⟩ := j
      rw [List.length_range] at J'
      have hlt2 := (List.getElem?_eq_some_iff.mp hr').1
      simp only [wp, wx, add_int]
      refine ⟨2000 - (at_ + 1), by omega, at_ + 1, ex', y6', rfl, by omega, ⟨J'.nd, J'.der, fun j p hj e a ha => ?_, fun p _ a ha => by omega⟩, by simp, rfl⟩
      by_cases hja : j < at_
      · exact J'.cl j p hja e a ha
      · have : j = at_ := by omega
        subst this
        rw [hr'] at e; cases e
        exact J'.cl2 r hr' a ha
  · have hlt' : ¬ (at_ : Int) < ((ps ++ ex).length : Int) := by omega
    have C : ClsJ m l ps (ps ++ ex) := ⟨fun p h => List.mem_append_left _ h, J.der, fun p h a ha => by
      obtain ⟨j, hj, e⟩ := List.getElem_of_mem h
      exact J.cl j p (by omega) (by rw [List.getElem?_eq_getElem hj, e]) a ha⟩
    have hkb := cls_kb hm hp C
    have hrow : ∀ p ∈ ps ++ ex, p.1 < m.length ∧ p.2 < m.length := fun p h => (J.der p h).ok hm hp
    generalize ps ++ ex = row at *
    simp only [hlt', decide_false, wc, wp, wx, len_tM]
    refine ⟨rg_nat (by omega), ?_⟩
    rw [Int.toNat_natCast, upto_nats]
    have gr : ∀ e : Mem, (M ++ [Ob.lst (row.map pairD), .dcr ((dedP ps ++ ex).map fun p => (pairD p, .bl true))] ++ e)[M.length]? = some (.lst (row.map pairD)) := fun e => get_app (g2 _ _)
    simp only [wp, wx, mkL, src_ref (gr _)]
    refine wl_typl pairD row (fun i ρ M' => ∃ q5 e x6 x7 x8, M' = M ++ [.lst (row.map pairD), .dcr ((dedP ps ++ ex).map fun p => (pairD p, .bl true))] ++ e ∧ M'[q5]? = some (.lst (nats (mrgAll m.length (row.take i)))) ∧ ρ = [some (tM m), some (.ref q), some (.ref M.length), some (.ref (M.length + 1)), x6, some (.ref q5), y6, x7, x8, none, none]) ⟨_, _, _, none, none, rfl, get_end rfl, rfl⟩ (fun i ρ M' j => by obtain ⟨_, e, _, _, _, rfl, _⟩ := j; exact gr e) (fun i hi ρ M' j => ?_) (fun ρ M' j => ?_)
    · obtain ⟨q5, e, x6, x7, x8, rfl, h5, rfl⟩ := j
      have hpi := hrow _ (List.getElem_mem hi)
      have htk : row.take (i + 1) = row.take i ++ [row[i]] := by rw [List.take_add_one, List.getElem?_eq_getElem hi]; rfl
      have hA := ma_all (n := m.length) (row := row.take i) fun p hp => hrow p (List.mem_of_mem_take hp)
      have hnext : mrgAll m.length (row.take (i + 1)) = mrgC (mrgAll m.length (row.take i)) row[i] := by unfold mrgAll; rw [htk, List.foldl_append]; rfl
      generalize row[i] = p at *
      generalize mrgAll m.length (row.take i) = c at *
      have p1 : p.1 < c.length := by rw [hA.len]; exact hpi.1
      have p2 : p.2 < c.length := by rw [hA.len]; exact hpi.2
      simp only [wp, wx, put_prj, w__law_joined_F1, src_ref h5]
      refine wc_mapL3 (fun (r : Nat) => D.int (r : Int)) (fun (o : Nat) => D.int ((if o = c.getD p.2 0 then c.getD p.1 0 else o : Nat) : Int)) c (chk_one h5) (fun o _ => ?_) ?_
      · have e1 : decide ((o : Int) = ((c[p.2] : Nat) : Int)) = decide (o = c.getD p.2 0) := by rw [getD_get p2]; exact decide_eq_decide.mpr (by omega)
        simp only [wp, wx, w__law_joined_E1, ixn_at h5 p2, eq_int, e1]
        by_cases ho : o = c.getD p.2 0
        · simp only [ho, decide_true, wp, wx, ixn_at h5 p1, if_true]
          exact ⟨by rw [getD_get p1], rfl⟩
        · simp only [ho, decide_false, wp, wx, if_false]
          exact ⟨rfl, rfl⟩
      · simp only [wp, wx]
        refine ⟨_, e ++ [_], _, _, _, by rw [← List.append_assoc], ?_, rfl⟩
        rw [get_end rfl, hnext]
        simp [mrgC, nats, Function.comp_def]
    · obtain ⟨q5, e, x6, x7, x8, rfl, h5, rfl⟩ := j
      rw [List.take_length] at h5
      simp only [wp, wx]
      refine numbered_w h5 (by have := hkb.len; omega) ?_
      simp only [wp, wx]
      rw [List.append_assoc, kFn_va (by simp)]
      exact k _ hkb
end
noncomputable def _law_is_E1 (rec : Fn) (ρ : Env) (m : Mem) : Option (Out × Mem) := (eCall rec (aCons (eVar 2) (aCons (eVar 3) aNil))) ρ m
theorem w__law_is_E1 {rec : Fn} {ρ : Env} {M : Mem} {Q : PO2} : WE (_law_is_E1 rec) ρ M Q ↔ WE (eCall rec (aCons (eVar 2) (aCons (eVar 3) aNil))) ρ M Q := Iff.rfl
noncomputable def _law_is_B (rec : Fn) : Fn := fnD 2 4
    (sSeq (sIf (bOf (eUn (isiF .tuple) (eVar 1))) (sSeq (sIf (bOr (bNot (bOf (eUn (isiF .tuple) (eVar 0)))) (bOf (eBin neF (eUn lenF (eVar 0)) (eUn lenF (eVar 1))))) (sRet (eC (.bl false))) sNil)
    (sRet (eUn allF (eComp (iZip (eVar 0) (eVar 1)) [2, 3] (.tp [2, 3]) bYes (_law_is_E1 rec))))) sNil)
    (sSeq (sIf (bOf (eUn (isiF .bool) (eVar 1))) (sRet (eAnd (eUn (isiF .bool) (eVar 0)) (eBin eqF (eVar 0) (eVar 1)))) sNil)
    (sRet (eAnd (eUn (isiF .int) (eVar 0)) (eAnd (eNot (eUn (isiF .bool) (eVar 0))) (eBin eqF (eVar 0) (eVar 1)))))))
noncomputable def m__law_is : Nat → Fn
  | 0 => fnD 2 4 (fun _ _ => none)
  | n + 1 => _law_is_B (m__law_is n)
mutual
def pv : Nat → D → Bool
  | 0, _ => false
  | _ + 1, .non => false
  | _ + 1, .bl _ => true
  | _ + 1, .int _ => true
  | _ + 1, .str s => false
  | n + 1, .tup xs => pvL n xs
  | _ + 1, _ => false
def pvL : Nat → List D → Bool
  | _, [] => true
  | n, d :: ds => pv n d && pvL n ds
end
theorem pvL_iff (n : Nat) : ∀ ds : List D, pvL n ds = true ↔ ∀ d ∈ ds, pv n d = true
  | [] => by simp [pvL]
  | d :: ds => by simp [pvL, pvL_iff n ds]
theorem pv_nat (n : Nat) (w : List Nat) : pv (n + 2) (tN w) = true := by
  simp only [tN, pv, pvL_iff]
  intro d hd
  obtain ⟨r, _, rfl⟩ := List.mem_map.mp hd
  simp [pv]
theorem pv_mach (n : Nat) (m : List (List Nat)) : pv (n + 3) (tM m) = true := by
  simp only [tM, pv, pvL_iff]
  intro d hd
  obtain ⟨r, _, rfl⟩ := List.mem_map.mp hd
  exact pv_nat n r
theorem is_trues (n : Nat) : ∀ k : Nat, blsOf (List.replicate k (D.bl true)) = some (List.replicate k true)
  | 0 => rfl
  | k + 1 => by simp [List.replicate_succ, blsOf, is_trues n k]
theorem is_refl : ∀ (n : Nat) (d : D) (M : Mem), pv n d = true → m__law_is n [d, d] M = some (.v (.bl true), M)
  | 0, d, M, h => by cases d <;> simp [pv] at h
  | n + 1, d, M, h => by
    rw [m__law_is]
    unfold _law_is_B fnD
    cases d with
    | non => simp [pv] at h
    | bl b => simp [isiF, tyOf, isiB, shut_s, isF, eqF, form, okD, D.eqb]
    | int i => simp [isiF, tyOf, isiB, shut_s, isF, eqF, form, okD, D.eqb]
    | str s => simp [pv] at h
    | fl xs => simp [pv] at h
    | par xs => simp [pv] at h
    | ref k => simp [pv] at h
    | lam k xs => simp [pv] at h
    | tup xs =>
      have h' : pvL n xs = true := by simpa [pv] using h
      have hh := (pvL_iff n xs).mp h'
      have key : ∀ (ys : List D), (∀ d ∈ ys, pv n d = true) → cmpL (.tp [2, 3]) bYes (_law_is_E1 (m__law_is n)) [] [some (.tup xs), some (.tup xs), none, none] (zipD ys ys) M = some (List.replicate ys.length (.bl true), M) := by
        intro ys
        induction ys with
        | nil => intro _; simp [zipD, cmpL_nil]
        | cons y ys ih =>
          intro hy
          have e := is_refl n y M (hy y (by simp))
          rw [zipD, cmpL_cons]
          simp [Tg.put, setAll, _law_is_E1, e, ih fun d hd => hy d (by simp [hd]), List.replicate_succ]
      have k := key xs hh
      simp [isiF, tyOf, isiB, len_tup, eComp, zipOf, wipeE, k, allF, lstOf, is_trues n, shut_s]
noncomputable def _law_due_E1 (ρ : Env) (m : Mem) : Option (Out × Mem) := (eBin dixF (eVar 2) (eVar 4)) ρ m
theorem w__law_due_E1 {ρ : Env} {M : Mem} {Q : PO2} : WE _law_due_E1 ρ M Q ↔ WE (eBin dixF (eVar 2) (eVar 4)) ρ M Q := Iff.rfl
noncomputable def _law_due_E2 (ρ : Env) (m : Mem) : Option (Out × Mem) := (eBin ixF (eVar 1) (eVar 5)) ρ m
theorem w__law_due_E2 {ρ : Env} {M : Mem} {Q : PO2} : WE _law_due_E2 ρ M Q ↔ WE (eBin ixF (eVar 1) (eVar 5)) ρ M Q := Iff.rfl
noncomputable def _law_due_F1 (ρ : Env) (m : Mem) : Option R := (sPut (eUn tupF (eComp (iE (eBin ixF (eVar 0) (eVar 3))) [5] (.nm 5) bYes _law_due_E2)) (gDx (eVar 2) (eVar 4))) ρ m
theorem w__law_due_F1 {ρ : Env} {M : Mem} {Q : R → Prop} : WS _law_due_F1 ρ M Q ↔ WS (sPut (eUn tupF (eComp (iE (eBin ixF (eVar 0) (eVar 3))) [5] (.nm 5) bYes _law_due_E2)) (gDx (eVar 2) (eVar 4))) ρ M Q := Iff.rfl
noncomputable def m__law_due : Fn := fnD 2 6
    (sSeq (sSet 2 eDnew)
    (sSeq (sFor (iEnumE (eVar 1)) (gT (.tp [3, 4])) _law_due_F1)
    (sRet (eUn tupF (eComp (iRg1 (eUn lndF (eVar 2))) [4] (.nm 4) bYes _law_due_E1)))))
noncomputable def law_F1 (ρ : Env) (m : Mem) : Option R := (sIf (bNot (bOf (eCall (m__law_is 8) (aCons (eCall m_folded (aCons (eVar 5) (aCons (eVar 4) aNil))) (aCons (eCall m__law_due (aCons (eVar 5) (aCons (eVar 4) aNil))) aNil))))) (sRet (eC (.bl false))) sNil) ρ m
theorem w_law_F1 {ρ : Env} {M : Mem} {Q : R → Prop} : WS law_F1 ρ M Q ↔ WS (sIf (bNot (bOf (eCall (m__law_is 8) (aCons (eCall m_folded (aCons (eVar 5) (aCons (eVar 4) aNil))) (aCons (eCall m__law_due (aCons (eVar 5) (aCons (eVar 4) aNil))) aNil))))) (sRet (eC (.bl false))) sNil) ρ M Q := Iff.rfl
noncomputable def law_E1 (ρ : Env) (m : Mem) : Option (Out × Mem) := (eCall m__law_next (aCons (eVar 1) (aCons (eUn lenF (eVar 5)) aNil))) ρ m
theorem w_law_E1 {ρ : Env} {M : Mem} {Q : PO2} : WE law_E1 ρ M Q ↔ WE (eCall m__law_next (aCons (eVar 1) (aCons (eUn lenF (eVar 5)) aNil))) ρ M Q := Iff.rfl
noncomputable def law_F2 (ρ : Env) (m : Mem) : Option R := (sSeq (sPut (eCall m__law_copies (aCons (eVar 1) (aCons (eC (.int 26)) (aCons (eC (.int 6)) aNil)))) (gT (.tp [5, 6])))
    (sSeq (sSet 3 (eCall m__law_numbered (aCons (eVar 6) aNil)))
    (sSeq (sIf (bOf (eBin eqF (eCall m__law_next (aCons (eVar 1) (aCons (eC (.int 2)) aNil))) (eC (.int 0)))) (sSeq (sSet 5 (eCall m__law_machine (aCons (eVar 1) (aCons (eC (.int 26)) (aCons (eC (.int 6)) aNil)))))
    (sSeq (sSet 7 (eComp (iRg1 (eBin mulF (eC (.int 2)) (eCall m__law_next (aCons (eVar 1) (aCons (eC (.int 4)) aNil))))) [8] (.nm 8) bYes law_E1))
    (sSet 3 (eCall m__law_joined (aCons (eVar 5) (aCons (eBin lziF (ePk 2 (eVar 7) oNone) (ePk 2 (eVar 7) (oSome (eC (.int 1))))) aNil)))))) sNil)
    (sFor (iE (eLst (aCons (eVar 3) (aCons (eRg1 mkT (eUn lenF (eVar 5))) (aCons (eBin mulTF (eTup (aCons (eC (.int 0)) aNil)) (eUn lenF (eVar 5))) (aCons (eVar 3) aNil)))))) (gT (.nm 4)) law_F1)))) ρ m
theorem w_law_F2 {ρ : Env} {M : Mem} {Q : R → Prop} : WS law_F2 ρ M Q ↔ WS (sSeq (sPut (eCall m__law_copies (aCons (eVar 1) (aCons (eC (.int 26)) (aCons (eC (.int 6)) aNil)))) (gT (.tp [5, 6])))
    (sSeq (sSet 3 (eCall m__law_numbered (aCons (eVar 6) aNil)))
    (sSeq (sIf (bOf (eBin eqF (eCall m__law_next (aCons (eVar 1) (aCons (eC (.int 2)) aNil))) (eC (.int 0)))) (sSeq (sSet 5 (eCall m__law_machine (aCons (eVar 1) (aCons (eC (.int 26)) (aCons (eC (.int 6)) aNil)))))
    (sSeq (sSet 7 (eComp (iRg1 (eBin mulF (eC (.int 2)) (eCall m__law_next (aCons (eVar 1) (aCons (eC (.int 4)) aNil))))) [8] (.nm 8) bYes law_E1))
    (sSet 3 (eCall m__law_joined (aCons (eVar 5) (aCons (eBin lziF (ePk 2 (eVar 7) oNone) (ePk 2 (eVar 7) (oSome (eC (.int 1))))) aNil)))))) sNil)
    (sFor (iE (eLst (aCons (eVar 3) (aCons (eRg1 mkT (eUn lenF (eVar 5))) (aCons (eBin mulTF (eTup (aCons (eC (.int 0)) aNil)) (eUn lenF (eVar 5))) (aCons (eVar 3) aNil)))))) (gT (.nm 4)) law_F1)))) ρ M Q := Iff.rfl
noncomputable def m_law : Fn := fnD 1 9
    (sSeq (sSet 1 (eCall m__law_begin (aCons (eVar 0) aNil)))
    (sSeq (sFor (iRg1 (eBin min2F (eC (.int 6)) (eBin addF (eC (.int 1)) (eUn lenF (eVar 0))))) (gT (.nm 2)) law_F2)
    (sRet (eC (.bl true)))))
theorem zipT_nn (u : List Nat) : ∀ v : List Nat, zipT (nats u) (nats v) = (u.zip v).map pairD := by
  induction u with
  | nil => intro v; simp [nats, zipT]
  | cons a u ih =>
    intro v
    cases v with
    | nil => simp [nats, zipT]
    | cons b v =>
      have := ih v
      simp only [nats] at this
      simp [nats, zipT, this, pairD, tN]
theorem pk_nats (w : List Nat) (lo : Option Int) (k : Int) : ∃ v : List Nat, pkL (nats w) lo k = nats v ∧ v.length ≤ w.length ∧ ∀ x ∈ v, x ∈ w := by
  refine ⟨pkL w lo k, ?_, pkL_le w lo k, fun x hx => pkL_mem hx⟩
  simp only [nats]
  rw [pkL_map]
theorem mulT_one44 {n : Nat} (h1 : 1 ≤ n) (h2 : n ≤ 1000) (d : D) (M : Mem) : mulTF (.v (.tup [d])) (.v (.int (n : Int))) M = some (.v (.tup (List.replicate n d)), M) := by
  have hc : ([d] : List D) ≠ [] ∧ (1 : Int) ≤ (n : Int) ∧ (n : Int) ≤ 1000 ∧ [d].length ≤ 1000 := ⟨by simp, by omega, by omega, by simp⟩
  simp only [mulTF, if_pos hc, Int.toNat_natCast, rep_flat]
/-- a dict of numbers, each with what belongs to it -/
def vdD (f : Nat → D) (R : List Nat) : List (D × D) := R.map fun (o : Nat) => (.int (o : Int), f o)
theorem vd_look (f : Nat → D) : ∀ (R : List Nat) (o : Nat), dlook (vdD f R) (.int (o : Int)) = if o ∈ R then some (f o) else none
  | [], o => by simp [vdD, dlook_nil]
  | r :: R, o => by
    have ih := vd_look f R o
    unfold vdD at ih ⊢
    rw [List.map_cons, dlook_cons]
    by_cases e : r = o
    · subst e; simp
    · have : ¬ (D.int (r : Int) = .int (o : Int)) := fun z => e (by injection z with z; omega)
      rw [if_neg this, ih]
      simp [Ne.symm e]
theorem vd_sto (f : Nat → D) (c : List Nat) (o : Nat) : dsto (vdD f (firstsN c)) (.int (o : Int)) (f o) = vdD f (firstsN (c ++ [o])) := by
  rw [firstsN_snoc]
  by_cases ho : o ∈ firstsN c
  · rw [if_pos ho]
    unfold dsto
    rw [vd_look, if_pos ho, Option.isSome_some, if_pos rfl]
    unfold vdD
    rw [List.map_map]
    refine List.map_congr_left fun r _ => ?_
    simp only [Function.comp]
    split
    · rename_i z
      have : r = o := by injection z with z; omega
      rw [this]
    · rfl
  · rw [if_neg ho, dsto_new (by rw [vd_look, if_neg ho])]
    simp [vdD]
theorem key_nat44 (o : Nat) : keyOf (.v (.int (o : Int))) = some (.int (o : Int)) := by simp [keyOf, nk, NestedKey.depth]
section
variable {m : List (List Nat)} {l : Nat} {c : List Nat} {k : Nat}
def imgR (m : List (List Nat)) (c : List Nat) (o : Nat) : List Nat := (m.getD (c.idxOf o) []).map fun g => c.getD g 0
theorem img_eq (hm : Mach m l) (P : Prtn m.length c k) (hk : Kpt m l fun x => c.getD x 0) {r : Nat} (hr : r < m.length) : (m[r].map fun g => c.getD g 0) = imgR m c (c.getD r 0) := by
  have hv := P.lt hr
  obtain ⟨h1, h2⟩ := P.ix hv
  unfold imgR
  have e1 := hm.row hr
  generalize c.idxOf (c.getD r 0) = j at *
  rw [show m.getD j [] = m[j] by simp [List.getD, h1]]
  have e2 := hm.row h1
  apply List.ext_getElem
  · simp [e1, e2]
  · intro a ha1 ha2
    have ha : a < l := by simp [e1] at ha1; exact ha1
    simp only [List.getElem_map]
    have := hk r j a hr h1 ha (by simp only; rw [h2])
    simp only [stp_eq hm hr ha, stp_eq hm h1 ha] at this
    exact this
theorem firsts_prtn (P : Prtn m.length c k) : (firstsN c).length = k := by
  have h := firstsN_mem c
  have h1 := nodup_len (U := List.range k) h.2.2 fun x hx => List.mem_range.mpr ((P.val x).mp ((h.1 x).mp hx))
  have h2 := nodup_len (U := firstsN c) (l := List.range k) List.nodup_range fun x hx => (h.1 x).mpr ((P.val x).mpr (List.mem_range.mp hx))
  rw [List.length_range] at h1 h2
  omega
theorem enum_tN44 (w : List Nat) (M : Mem) : enumOf (.v (tN w)) M = some ⟨(w.zipIdx).map fun p => D.par [.int ((p.2 : Nat) : Int), .int ((p.1 : Nat) : Int)], []⟩ := by
  have gen : ∀ (w : List Nat) (i : Nat), enumD i (nats w) = (w.zipIdx i).map fun p => D.par [.int ((p.2 : Nat) : Int), .int ((p.1 : Nat) : Int)] := by
    intro w
    induction w with
    | nil => intro i; simp [nats, enumD]
    | cons a w ih =>
      intro i
      have := ih (i + 1)
      simp only [nats] at this
      simp [nats, enumD, this]
  simp only [enumOf, tN]
  rw [gen]
theorem ldue_w (hm : Mach m l) (hb : m.length ≤ 26) (P : Prtn m.length c k) (hk : Kpt m l fun x => c.getD x 0) {M : Mem} {K : PO2} (kk : K (.v (tM (foldM m c k))) M) : WO (m__law_due [tM m, tN c] M) K := by
  have hfl := firsts_prtn P
  have hkl := P.le
  have hcl := P.len
  unfold m__law_due
  simp only [wp, wx, wf, Nat.reduceSub, enum_tN44]
  refine wl_typ (fun p : Nat × Nat => D.par [.int ((p.2 : Nat) : Int), .int ((p.1 : Nat) : Int)]) c.zipIdx (fun i ρ M' => M' = M ++ [.dcr (vdD (fun o => tN (imgR m c o)) (firstsN (c.take i)))] ∧ ∃ x3 x4, ρ = [some (tM m), some (tN c), some (.ref M.length), x3, x4, none]) ⟨by simp [firstsN, vdD], none, none, rfl⟩ (fun i hi ρ M' j => ?_) (fun ρ M' j => ?_)
  · obtain ⟨rfl, x3, x4, rfl⟩ := j
    have hi' : i < c.length := by simpa using hi
    have him : i < m.length := by omega
    have ez : c.zipIdx[i] = (c[i], i) := by simp
    rw [ez]
    have hrow := hm.row him
    simp only [wp, wx, w__law_due_F1, ix_row him, src_tN]
    refine wc_map (fun (g : Nat) => D.int (g : Int)) (fun (g : Nat) => D.int ((c.getD g 0 : Nat) : Int)) m[i] (fun g hg => ?_) ?_
    · have hgl : g < c.length := by rw [hcl]; exact hm.lt _ (List.getElem_mem him) g hg
      simp only [wp, wx, w__law_due_E2, ix_nat hgl]
      exact ⟨by rw [getD_get hgl], rfl⟩
    have e1 : D.tup (m[i].map fun (g : Nat) => D.int ((c.getD g 0 : Nat) : Int)) = tN (imgR m c c[i]) := by
      have := img_eq hm P hk him
      rw [getD_get hi'] at this
      rw [← this]
      simp [tN, nats]
    have gd : ∀ o : Ob, (M ++ [o])[M.length]? = some o := fun o => get_end rfl
    have hfi : (firstsN (c.take i)).length ≤ 26 := by
      have := (firstsN_mem (c.take i)).2.1
      simp at this
      omega
    have hf : fits ((vdD (fun o => tN (imgR m c o)) (firstsN (c.take i))).length + 1) := fits_of (by simp [vdD]; omega)
    have htk : c.take (i + 1) = c.take i ++ [c[i]] := by rw [List.take_add_one, List.getElem?_eq_getElem hi']; rfl
    have e2 : dstoF (.v (.ref M.length)) (.v (.int ((c[i] : Nat) : Int))) (tN (imgR m c c[i])) (M ++ [.dcr (vdD (fun o => tN (imgR m c o)) (firstsN (c.take i)))]) = some (M ++ [.dcr (vdD (fun o => tN (imgR m c o)) (firstsN (c.take (i + 1))))]) := by
      simp only [dstoF, gd, key_nat44, Option.bind_some, if_pos hf]
      rw [vd_sto (fun o => tN (imgR m c o)), set_end rfl, htk]
    simp only [wp, wx, tup_ol, e1, e2]
    exact ⟨_, _, rfl⟩
  · obtain ⟨rfl, x3, x4, rfl⟩ := j
    rw [List.length_zipIdx, List.take_length]
    have gd : (M ++ [Ob.dcr (vdD (fun o => tN (imgR m c o)) (firstsN c))])[M.length]? = some (.dcr (vdD (fun o => tN (imgR m c o)) (firstsN c))) := get_end rfl
    have evl : (vdD (fun o => tN (imgR m c o)) (firstsN c)).length = k := by simp [vdD, hfl]
    simp only [wp, wx, lnd_ref gd, evl]
    refine ⟨rg_nat (by omega), ?_⟩
    rw [Int.toNat_natCast, upto_nats]
    refine wc_map (fun (o : Nat) => D.int (o : Int)) (fun (o : Nat) => tN (imgR m c o)) (List.range k) (fun o ho => ?_) ?_
    · have hok : o ∈ firstsN c := ((firstsN_mem c).1 o).mpr ((P.val o).mpr (List.mem_range.mp ho))
      have e3 : dixF (.v (.ref M.length)) (.v (.int (o : Int))) (M ++ [Ob.dcr (vdD (fun o => tN (imgR m c o)) (firstsN c))]) = some (.v (tN (imgR m c o)), M ++ [Ob.dcr (vdD (fun o => tN (imgR m c o)) (firstsN c))]) := by
        simp only [dixF, dctOf, gd, Option.bind_some, key_nat44, vd_look, if_pos hok]; rfl
      simp only [wp, wx, w__law_due_E1, e3]
      exact ⟨rfl, rfl⟩
    have e4 : D.tup ((List.range k).map fun (o : Nat) => tN (imgR m c o)) = tM (foldM m c k) := by
      simp [tM, foldM, imgR]
    simp only [wp, wx, tup_ol, e4]
    rw [kFn_va (by simp)]
    exact kk
end
theorem law_true (ns : List Int) (hns : ns.length ≤ 63) : ∃ m', m_law [.fl (ns.map .int)] [] = some (.v (.bl true), m') := by
  refine law_of ns ?_
  unfold m_law
  simp only [wp, wx, wf, Nat.reduceSub]
  refine begin3 ns hns fun cs s h3 => ?_
  have g := gen3 1 0
  have el : (1 : Int) + ((ns.map D.int).length : Int) = ((1 + ns.length : Nat) : Int) := by rw [List.length_map]; omega
  have em := fun M => min2_nat 6 (1 + ns.length) M
  simp only [wp, wx, len_fl, add_int, el]
  rw [show (6 : Int) = ((6 : Nat) : Int) from rfl, em]
  simp only [wp, wx]
  refine ⟨rg_nat (by omega), ?_⟩
  rw [Int.toNat_natCast]
  refine wl_rg0 (fun i ρ M' => S3 1 0 M' ∧ ∃ x2 x3 x4 x5 x6 x7, ρ = [some (.fl (ns.map .int)), some (.ref 1), x2, x3, x4, x5, x6, x7, none]) ⟨h3, none, none, none, none, none, none, rfl⟩ (fun i ρ M0 hi j => ?_) (fun ρ M' j => ?_)
  · obtain ⟨s0, x2, x3, x4, x5, x6, x7, rfl⟩ := j
    simp only [wp, wx, w_law_F2]
    refine copies_w g s0 (mo := 26) (le := 6) (by omega) (by omega) (by omega) (by omega) fun m l ow q M2 hm hm0 hm1 hl0 hl how hkept hq hqo L2 => ?_
    -- the loop over four partings
    have fin : ∀ (m : List (List Nat)) (l : Nat) (c : List Nat) (k : Nat), Mach m l → 0 < m.length → m.length ≤ 26 → Prtn m.length c k → 0 < k → (Kpt m l fun x => c.getD x 0) → ∀ (M' : Mem) (x6 x7 : Option D), S3 1 0 M' →
        WS (sFor (iE (eLst (aCons (eVar 3) (aCons (eRg1 mkT (eUn lenF (eVar 5))) (aCons (eBin mulTF (eTup (aCons (eC (.int 0)) aNil)) (eUn lenF (eVar 5))) (aCons (eVar 3) aNil)))))) (gT (.nm 4)) law_F1) [some (.fl (ns.map .int)), some (.ref 1), some (.int (i : Int)), some (tN c), x4, some (tM m), x6, x7, none] M'
          (kTurn (fun ρ M' => S3 1 0 M' ∧ ∃ x2 x3 x4 x5 x6 x7, ρ = [some (.fl (ns.map .int)), some (.ref 1), x2, x3, x4, x5, x6, x7, none]) (kSeq (sRet (eC (.bl true))) (kFn [] fun r _ => r = Out.v (D.bl true)))) := by
      intro m l c k hm h0 hb P hk0 hk M' x6 x7 s'
      simp only [wp, wx, len_tM]
      refine ⟨rg_nat (by omega), ?_⟩
      rw [Int.toNat_natCast]
      have e0 : D.tup (List.replicate m.length (D.int 0)) = tN (List.replicate m.length 0) := by simp [tN, nats]
      simp only [wp, wx, mkT_rg, len_tM, mulT_one44 (show 1 ≤ m.length by omega) (show m.length ≤ 1000 by omega), e0, src_ol]
      have hall : ∀ d ∈ [tN c, tN (List.range m.length), tN (List.replicate m.length 0), tN c], ∃ c' k', d = tN c' ∧ Prtn m.length c' k' ∧ 0 < k' ∧ Kpt m l fun x => c'.getD x 0 := fun d hd => by
        simp only [List.mem_cons, List.not_mem_nil, or_false] at hd
        rcases hd with rfl | rfl | rfl | rfl
        · exact ⟨c, k, rfl, P, hk0, hk⟩
        · exact ⟨_, m.length, rfl, ⟨by simp, fun v => List.mem_range, Nat.le_refl _⟩, h0, fun x y a hx hy ha e => by simp only [range_getD hx, range_getD hy] at e; rw [e]⟩
        · have er : ∀ x, (List.replicate m.length 0).getD x 0 = 0 := fun x => by
            rw [List.getD_eq_getElem?_getD, List.getElem?_replicate]
            split <;> rfl
          exact ⟨_, 1, rfl, ⟨by simp, fun v => by rw [List.mem_replicate]; omega, by omega⟩, by omega, fun x y a _ _ _ _ => by simp only [er]⟩
        · exact ⟨c, k, rfl, P, hk0, hk⟩
      refine wl_inv (fun j ρ M'' => M' = M'' ∧ ∃ y4, ρ = [some (.fl (ns.map .int)), some (.ref 1), some (.int (i : Int)), some (tN c), y4, some (tM m), x6, x7, none]) ⟨rfl, _, rfl⟩ (fun _ _ _ _ _ => chk_nil) (fun j d ρ M'' hd jj => ?_) (fun ρ M'' jj => ?_)
      · obtain ⟨rfl, y4, rfl⟩ := jj
        obtain ⟨c', k', rfl, P', hk0', hk'⟩ := hall d (List.mem_of_getElem? hd)
        simp only [wp, wx, w_law_F1]
        refine folded_w hm (by omega) P' hk0' ?_
        simp only [wp, wx]
        refine ldue_w hm hb P' hk' ?_
        simp only [wp, wx, is_refl 8 (tM (foldM m c' k')) M' (pv_mach 5 _), Bool.not_true]
        exact ⟨_, rfl⟩
      · obtain ⟨rfl, y4, rfl⟩ := jj
        exact ⟨s', _, _, _, _, _, _, rfl⟩
    simp only [wp, wx]
    refine numbered_w hqo (by omega) ?_
    simp only [wp, wx]
    refine L2.w g (n := 2) (by omega) (by omega) fun r M3 hr L3 o3 => ?_
    simp only [wp, wx, eq_int]
    by_cases hr0 : (r : Int) = 0
    · simp only [hr0, decide_true, wp, wx]
      refine mach3_w g L3.s (mo := 26) (le := 6) (by omega) (by omega) (by omega) (by omega) fun m l M4 hm hm0 hm1 hl0 hl s4 f4 => ?_
      simp only [wp, wx]
      refine g.w (n := 4) s4 (by omega) (by omega) fun r4 M5 hr4 s5 f5 => ?_
      have hmul : mulOk 2 (r4 : Int) := .inl ⟨by omega, by omega⟩
      have e2r : (2 : Int) * (r4 : Int) = ((2 * r4 : Nat) : Int) := by omega
      simp only [wp, wx, mul_int, if_pos hmul, e2r]
      refine ⟨rg_nat (by omega), ?_⟩
      rw [Int.toNat_natCast]
      refine g.wds (n := m.length) hm0 (by omega) s5 (fun y _ => ?_) (fun w M6 hwl hw s6 f6 => ?_)
      · simp only [wp, wx, w_law_E1, len_tM]; exact fun M K h => h
      rw [upto_len] at hwl
      have gw : (M6 ++ [Ob.lst (nats w)])[M6.length]? = some (.lst (nats w)) := get_end rfl
      have s7 := g.app s6 [Ob.lst (nats w)]
      obtain ⟨u, hu, hul, hum⟩ := pk_nats w none 2
      obtain ⟨v, hv, hvl, hvm⟩ := pk_nats w (some 1) 2
      have ep1 : pkF 2 (.v (.ref M6.length)) none (M6 ++ [Ob.lst (nats w)]) = some (.o (.lst (nats u)), M6 ++ [Ob.lst (nats w)]) := by simp [pkF, lsrc, gw, hu]
      have ep2 : pkF 2 (.v (.ref M6.length)) (some 1) (M6 ++ [Ob.lst (nats w)]) = some (.o (.lst (nats v)), M6 ++ [Ob.lst (nats w)]) := by simp [pkF, lsrc, gw, hv]
      have ez : ∀ M : Mem, lziF (.o (.lst (nats u))) (.o (.lst (nats v))) M = some (.o (.lst ((u.zip v).map pairD)), M) := fun M => by simp [lziF, lsrc, zipT_nn]
      simp only [wp, wx, wzn, ep1, ep2, ez]
      have hps : ∀ p ∈ u.zip v, p.1 < m.length ∧ p.2 < m.length := fun p hp => by
        obtain ⟨h1, h2⟩ := List.of_mem_zip (a := p.1) (b := p.2) hp
        exact ⟨hw _ (hum _ h1), hw _ (hvm _ h2)⟩
      have hm26 : m.length ≤ 26 := by omega
      refine ljoined_w hm hm0 hm26 hl hps (by simp; omega) (get_end rfl) fun c hc => ?_
      have s8 := g.app s7 [Ob.lst ((u.zip v).map pairD)]
      have := fin m l (numN c) (firstsN c).length hm hm0 hm26 (prtn_num hc.len) (firstsN_pos (by rw [hc.len]; exact hm0)) (kpt_num hm hc.len hc.kept) _ (some (.ref q)) (some (.ref M6.length)) s8
      simp only [wp, wx] at this ⊢
      exact this
    · simp only [hr0, decide_false, wp, wx]
      have hkp : Kpt m l fun x => ow.getD x 0 := fun x y a hx hy ha e => hkept x y a hx hy ha e
      have := fin m l (numN ow) (firstsN ow).length hm hm0 hm1 (prtn_num how) (firstsN_pos (by rw [how]; exact hm0)) (kpt_num hm how hkp) _ (some (.ref q)) x7 L3.s
      simp only [wp, wx] at this
      exact this
  · obtain ⟨_, x2, x3, x4, x5, x6, x7, rfl⟩ := j
    simp only [wp, wx]
    exact law_fin rfl
def topS (i : Nat) : Stmt := PySem.Challenge.pw_bringhome_k44_folded_machines.main.body.getD i (.Pass ⟨0, 0, 0, 0⟩)
abbrev s__law_is : Stmt := topS 10
theorem sc__law_is : FnScope ["_law_found", "_law_due_here", "_law_one", "_law_other"] ["_law_found", "_law_due_here"] (defScope s__law_is) := ⟨rfl, rfl, rfl, by decide +kernel, rfl, by decide +kernel, by decide +kernel⟩

abbrev s__law_due : Stmt := topS 11
theorem sc__law_due : FnScope ["_law_machine_here", "_law_parting", "_law_rows", "_law_room", "_law_own", "_law_goal"] ["_law_machine_here", "_law_parting"] (defScope s__law_due) := ⟨rfl, rfl, rfl, by decide +kernel, rfl, by decide +kernel, by decide +kernel⟩

abbrev s_folded : Stmt := topS 1
theorem sc_folded : FnScope ["machine", "parting", "firsts", "own", "first", "goal"] ["machine", "parting"] (defScope s_folded) := ⟨rfl, rfl, rfl, by decide +kernel, rfl, by decide +kernel, by decide +kernel⟩

abbrev s__law_next : Stmt := topS 4
theorem sc__law_next : FnScope ["_law_state", "_law_many", "_law_mixed", "_law_digit"] ["_law_state", "_law_many"] (defScope s__law_next) := ⟨rfl, rfl, rfl, by decide +kernel, rfl, by decide +kernel, by decide +kernel⟩

abbrev s__law_numbered : Stmt := topS 8
theorem sc__law_numbered : FnScope ["_law_classes", "_law_known", "_law_own"] ["_law_classes"] (defScope s__law_numbered) := ⟨rfl, rfl, rfl, by decide +kernel, rfl, by decide +kernel, by decide +kernel⟩

abbrev s__law_joined : Stmt := topS 9
theorem sc__law_joined : FnScope ["_law_machine_here", "_law_pairs", "_law_row", "_law_met", "_law_at", "_law_classes", "_law_goal", "_law_one", "_law_other", "_law_pair", "_law_own"] ["_law_machine_here", "_law_pairs"] (defScope s__law_joined) := ⟨rfl, rfl, rfl, by decide +kernel, rfl, by decide +kernel, by decide +kernel⟩

abbrev s__law_column : Stmt := topS 5
theorem sc__law_column : FnScope ["_law_state", "_law_many", "_law_way", "_law_column_here", "_law_made", "_law_one", "_law_other", "_law_left", "_law_room", "_law_goal"] ["_law_state", "_law_many", "_law_way"] (defScope s__law_column) := ⟨rfl, rfl, rfl, by decide +kernel, rfl, by decide +kernel, by decide +kernel⟩

abbrev s__law_machine : Stmt := topS 6
theorem sc__law_machine : FnScope ["_law_state", "_law_most", "_law_letters", "_law_many", "_law_count", "_law_sort", "_law_columns", "_law_letter", "_law_way", "_law_room", "_law_column_here"] ["_law_state", "_law_most", "_law_letters"] (defScope s__law_machine) := ⟨rfl, rfl, rfl, by decide +kernel, rfl, by decide +kernel, by decide +kernel⟩

abbrev s__law_copies : Stmt := topS 7
theorem sc__law_copies : FnScope ["_law_state", "_law_most", "_law_letters", "_law_base", "_law_many", "_law_owners", "_law_turn", "_law_rows", "_law_own", "_law_row", "_law_goal", "_law_copies_here", "_law_room"] ["_law_state", "_law_most", "_law_letters"] (defScope s__law_copies) := ⟨rfl, rfl, rfl, by decide +kernel, rfl, by decide +kernel, by decide +kernel⟩

abbrev s__law_begin : Stmt := topS 3
theorem sc__law_begin : FnScope ["_law_script", "_law_seed", "_law_cell"] ["_law_script"] (defScope s__law_begin) := ⟨rfl, rfl, rfl, by decide +kernel, rfl, by decide +kernel, by decide +kernel⟩

abbrev s_law : Stmt := topS 12
theorem sc_law : FnScope ["_law_script", "_law_state", "_law_turn", "_law_parting", "_law_one", "_law_machine_here", "_law_owners", "_law_some", "_law_k"] ["_law_script"] (defScope s_law) := ⟨rfl, rfl, rfl, by decide +kernel, rfl, by decide +kernel, by decide +kernel⟩

structure Top (K : PySem.W.Frag) (mg : Str → Option Value) : Prop where
  d__law_is : Df K mg "_law_is" s__law_is
  d__law_due : Df K mg "_law_due" s__law_due
  d_folded : Df K mg "folded" s_folded
  d__law_next : Df K mg "_law_next" s__law_next
  d__law_numbered : Df K mg "_law_numbered" s__law_numbered
  d__law_joined : Df K mg "_law_joined" s__law_joined
  d__law_column : Df K mg "_law_column" s__law_column
  d__law_machine : Df K mg "_law_machine" s__law_machine
  d__law_copies : Df K mg "_law_copies" s__law_copies
  d__law_begin : Df K mg "_law_begin" s__law_begin
  b_all : mg "all" = none
  b_bool : mg "bool" = none
  b_dict : mg "dict" = none
  b_enumerate : mg "enumerate" = none
  b_int : mg "int" = none
  b_isinstance : mg "isinstance" = none
  b_len : mg "len" = none
  b_list : mg "list" = none
  b_max : mg "max" = none
  b_min : mg "min" = none
  b_range : mg "range" = none
  b_tuple : mg "tuple" = none
  b_zip : mg "zip" = none
section
variable {P : Program} {w : World} {K : PySem.W.Frag} {mg : Str → Option Value} {base : Heap}
theorem ok__law_is (T : Top K mg) : ∀ n : Nat, Callee P w K mg base (1 + n) "_law_is" 2 (m__law_is n)
  | 0 => mkC (k := 0) T.d__law_is sc__law_is rfl rfl (fun _ _ _ _ _ _ us hl => match us, hl with | [_, _], _ => rfl) fun f cdv A outer s H E hr => ss_none
  | n + 1 => have ih := ok__law_is T n; mkC (k := 1 + n) T.d__law_is sc__law_is rfl rfl (fun _ _ _ _ _ _ us hl => match us, hl with | [_, _], _ => rfl) fun f cdv A outer s H E hr =>
    (ss_cons (ss_if (t_val (isi_ .tuple T.b_isinstance (bt_ (t := .tuple) T.b_tuple) (v_ 1))) (ss_cons (ss_if (t_w (w_or (t_not (t_val (isi_ .tuple T.b_isinstance (bt_ (t := .tuple) T.b_tuple) (v_ 0)))) (w_or1 (t_ne hr (len_ T.b_len (v_ 0)) (len_ T.b_len (v_ 1)))))) (ss_one (ss_ret cb_)) ss_nil)
    (ss_one (ss_ret (all_ T.b_all (se_comp (t := (.tp [2, 3])) (pe_lc (own := [("_law_one", 2), ("_law_other", 3)]) rfl sc__law_is.nd (zip_ T.b_zip (v_ 0) (v_ 1)) (blkOk_by (own := [("_law_one", 2), ("_law_other", 3)]) (by kernel_rfl)) (fun _ _ _ _ _ => (pg_tup rfl (pgs_cons (nm_ 2 sc__law_is.nd) (pgs_cons (nm_ 3 sc__law_is.nd) pgs_nil)))) (fun _ _ _ _ _ => sts_nil) (fun _ _ _ _ _ => (call_ ih hr (Nat.le_refl _) (a1 (v_ 2) (a1 (v_ 3) a0))))) (by decide)))))) ss_nil)
    (ss_cons (ss_if (t_val (isi_ .bool T.b_isinstance (bt_ (t := .bool) T.b_bool) (v_ 1))) (ss_one (ss_ret (and_ (isi_ .bool T.b_isinstance (bt_ (t := .bool) T.b_bool) (v_ 0)) (one_ (eq_ hr (v_ 0) (v_ 1)))))) ss_nil)
    (ss_one (ss_ret (and_ (isi_ .int T.b_isinstance (bt_ (t := .int) T.b_int) (v_ 0)) (and_ (not_ (isi_ .bool T.b_isinstance (bt_ (t := .bool) T.b_bool) (v_ 0))) (one_ (eq_ hr (v_ 0) (v_ 1)))))))))

theorem ok__law_due (T : Top K mg) : Callee P w K mg base 1 "_law_due" 2 m__law_due := mkC (k := 0) T.d__law_due sc__law_due rfl rfl (fun _ _ _ _ _ _ us hl => match us, hl with | [_, _], _ => rfl) fun f cdv A outer s H E hr =>
    (ss_cons (ss_set (ps_set (i := 2) sc__law_due.nd rfl (.inr rfl) se_dnew))
    (ss_cons (ss_for (ps_for PassesOwn.never rfl (enum_ T.b_enumerate (v_ 1)) (sg_tup (pg_tup rfl (pgs_cons (nm_ 3 sc__law_due.nd) (pgs_cons (nm_ 4 sc__law_due.nd) pgs_nil))) rfl) (ss_one (ss_put (ps_asg (tuple_ T.b_tuple (se_comp (t := (.nm 5)) (pe_lc (own := [("_law_goal", 5)]) rfl sc__law_due.nd (we (ix_ (v_ 0) (v_ 3))) (blkOk_by (own := [("_law_goal", 5)]) (by kernel_rfl)) (fun _ _ _ _ _ => (nm_ 5 sc__law_due.nd)) (fun _ _ _ _ _ => sts_nil) (fun _ _ _ _ _ => (ix_ (v_ 1) (v_ 5)))) (by decide))) (sg_dx (pg_sub (v_ 2) (v_ 4) (set_raw (u65 hr)))))))))
    (ss_one (ss_ret (tuple_ T.b_tuple (se_comp (t := (.nm 4)) (pe_lc (own := [("_law_own", 4)]) rfl sc__law_due.nd (rg1_ T.b_range (lnd_ T.b_len (v_ 2))) (blkOk_by (own := [("_law_own", 4)]) (by kernel_rfl)) (fun _ _ _ _ _ => (nm_ 4 sc__law_due.nd)) (fun _ _ _ _ _ => sts_nil) (fun _ _ _ _ _ => (dix_ hr (v_ 2) (v_ 4)))) (by decide)))))))

theorem ok_folded (T : Top K mg) : Callee P w K mg base 1 "folded" 2 m_folded := mkC (k := 0) T.d_folded sc_folded rfl rfl (fun _ _ _ _ _ _ us hl => match us, hl with | [_, _], _ => rfl) fun f cdv A outer s H E hr =>
    (ss_cons (ss_setComp (t := (.nm 3)) (ps_setLc (i := 2) (own := [("own", 3)]) rfl sc_folded.nd rfl rfl (sw_true rfl rfl rfl (by kernel_rfl)) (rg1_ T.b_range (add_ (max1_ hr T.b_max (v_ 1)) ci)) (blkOk_by (own := [("own", 3)]) (by kernel_rfl)) (fun _ _ _ _ _ => (nm_ 3 sc_folded.nd)) (fun _ _ _ _ _ => sts_nil) (fun _ _ _ _ _ => (se_idxT (pe_tm PySem.F.slot_tuple_index PySem.F.type_tuple_index mt_idxT (v_ 1) (pa1 (v_ 3)))))) (by decide))
    (ss_one (ss_ret (tuple_ T.b_tuple (se_comp (t := (.nm 4)) (pe_lc (own := [("first", 4)]) rfl sc_folded.nd (we (v_ 2)) (blkOk_by (own := [("first", 4)]) (by kernel_rfl)) (fun _ _ _ _ _ => (nm_ 4 sc_folded.nd)) (fun _ _ _ _ _ => sts_nil) (fun _ _ _ _ _ => (tuple_ T.b_tuple (se_comp (t := (.nm 5)) (pe_lc (own := [("goal", 5)]) rfl sc_folded.nd (we (ix_ (v_ 0) (v_ 4))) (blkOk_by (own := [("goal", 5)]) (by kernel_rfl)) (fun _ _ _ _ _ => (nm_ 5 sc_folded.nd)) (fun _ _ _ _ _ => sts_nil) (fun _ _ _ _ _ => (ix_ (v_ 1) (v_ 5)))) (by decide))))) (by decide))))))

theorem ok__law_next (T : Top K mg) : Callee P w K mg base 1 "_law_next" 2 m__law_next := mkC (k := 0) T.d__law_next sc__law_next rfl rfl (fun _ _ _ _ _ _ us hl => match us, hl with | [_, _], _ => rfl) fun f cdv A outer s H E hr =>
    (ss_cons (ss_if (t_ne hr (se_kix hr (v_ 0) cs) (lst_ a0)) (ss_cons (ss_set (ps_set (i := 3) sc__law_next.nd rfl (.inl rfl) (mod_ (ix_ (se_kix hr (v_ 0) cs) ci) (v_ 1))))
    (ss_cons (ss_put (ps_asg (div_ (ix_ (se_kix hr (v_ 0) cs) ci) (v_ 1)) (sg_ix (pg_sub (se_kix hr (v_ 0) cs) ci set_list))))
    (ss_cons (ss_if (t_eq hr (ix_ (se_kix hr (v_ 0) cs) ci) ci) (ss_one (ss_do (pop_ (pe_bm PySem.F.plainAttrs_list PySem.F.slot_list_pop PySem.F.type_list_pop mt_popAt (se_kix hr (v_ 0) cs) (pa1 ci))) (ps_expr (pop_ (pe_bm PySem.F.plainAttrs_list PySem.F.slot_list_pop PySem.F.type_list_pop mt_popAt (se_kix hr (v_ 0) cs) (pa1 ci)))))) ss_nil)
    (ss_one (ss_ret (v_ 3)))))) ss_nil)
    (ss_cons (ss_kput (ps_dput (hu_of hr) (v_ 0) cs (mod_ (add_ (mul_ (se_kix hr (v_ 0) cs) ci) ci) ci) rfl))
    (ss_cons (ss_set (ps_set (i := 2) sc__law_next.nd rfl (.inl rfl) (div_ (se_kix hr (v_ 0) cs) ci)))
    (ss_one (ss_ret (mod_ (div_ (mod_ (mul_ (v_ 2) (v_ 2)) ci) ci) (v_ 1)))))))

theorem ok__law_numbered (T : Top K mg) : Callee P w K mg base 1 "_law_numbered" 1 m__law_numbered := mkC (k := 0) T.d__law_numbered sc__law_numbered rfl rfl (fun _ _ _ _ _ _ us hl => match us, hl with | [_], _ => rfl) fun f cdv A outer s H E hr =>
    (ss_cons (ss_set (ps_set (i := 1) sc__law_numbered.nd rfl (.inr rfl) (lst_ a0)))
    (ss_cons (ss_for (ps_for PassesOwn.never rfl (we (v_ 0)) (sg_name (nm_ 2 sc__law_numbered.nd)) (ss_one (ss_if (t_nin hr (v_ 2) (v_ 1)) (ss_one (ss_do (app_ (pe_bm PySem.F.plainAttrs_list PySem.F.slot_list_append PySem.F.type_list_append mt_append (v_ 1) (pa1 (v_ 2)))) (ps_expr (app_ (pe_bm PySem.F.plainAttrs_list PySem.F.slot_list_append PySem.F.type_list_append mt_append (v_ 1) (pa1 (v_ 2))))))) ss_nil))))
    (ss_one (ss_ret (tuple_ T.b_tuple (se_comp (t := (.nm 2)) (pe_lc (own := [("_law_own", 2)]) rfl sc__law_numbered.nd (we (v_ 0)) (blkOk_by (own := [("_law_own", 2)]) (by kernel_rfl)) (fun _ _ _ _ _ => (nm_ 2 sc__law_numbered.nd)) (fun _ _ _ _ _ => sts_nil) (fun _ _ _ _ _ => (idxL_ (pe_bm PySem.F.plainAttrs_list PySem.F.slot_list_index PySem.F.type_list_index (mt_indexD (u65 hr)) (v_ 1) (pa1 (v_ 2)))))) (by decide)))))))

theorem ok__law_joined (T : Top K mg) : Callee P w K mg base 2 "_law_joined" 2 m__law_joined := mkC (k := 1) T.d__law_joined sc__law_joined rfl rfl (fun _ _ _ _ _ _ us hl => match us, hl with | [_, _], _ => rfl) fun f cdv A outer s H E hr =>
    (ss_cons (ss_set (ps_set (i := 2) sc__law_joined.nd rfl (.inl rfl) (list_ T.b_list (v_ 1))))
    (ss_cons (ss_set (ps_set (i := 3) sc__law_joined.nd rfl (.inl rfl) (dict_ hr T.b_dict (se_comp (t := (.nm 9)) (pe_lc (own := [("_law_pair", 9)]) rfl sc__law_joined.nd (we (v_ 1)) (blkOk_by (own := [("_law_pair", 9)]) (by kernel_rfl)) (fun _ _ _ _ _ => (nm_ 9 sc__law_joined.nd)) (fun _ _ _ _ _ => sts_nil) (fun _ _ _ _ _ => (tup_ (a1 (v_ 9) (a1 cb_ a0))))) (by decide)))))
    (ss_cons (ss_set (ps_set (i := 4) sc__law_joined.nd rfl (.inl rfl) ci))
    (ss_cons (ss_while (ps_while PassesOwn.never (t_lt (v_ 4) (len_ T.b_len (v_ 2))) (ss_cons (ss_for (ps_for PassesOwn.never rfl (zpk_ T.b_zip (ix_ (v_ 0) (ix_ (ix_ (v_ 2) (v_ 4)) ci)) (ix_ (v_ 0) (ix_ (ix_ (v_ 2) (v_ 4)) ci))) (sg_name (nm_ 6 sc__law_joined.nd)) (ss_one (ss_if (t_dnin hr (v_ 6) (v_ 3)) (ss_cons (ss_put (ps_asg cb_ (sg_dx (pg_sub (v_ 3) (v_ 6) (set_raw (u65 hr))))))
    (ss_one (ss_do (app_ (pe_bm PySem.F.plainAttrs_list PySem.F.slot_list_append PySem.F.type_list_append mt_append (v_ 2) (pa1 (v_ 6)))) (ps_expr (app_ (pe_bm PySem.F.plainAttrs_list PySem.F.slot_list_append PySem.F.type_list_append mt_append (v_ 2) (pa1 (v_ 6)))))))) ss_nil))))
    (ss_one (ss_set (ps_set (i := 4) sc__law_joined.nd rfl (.inl rfl) (add_ (v_ 4) ci)))))))
    (ss_cons (ss_set (ps_set (i := 5) sc__law_joined.nd rfl (.inr rfl) (lrg1_ T.b_list T.b_range (len_ T.b_len (v_ 0)))))
    (ss_cons (ss_for (ps_for PassesOwn.never rfl (we (v_ 2)) (sg_tup (pg_tup rfl (pgs_cons (nm_ 7 sc__law_joined.nd) (pgs_cons (nm_ 8 sc__law_joined.nd) pgs_nil))) rfl) (ss_one (ss_set (ps_set (i := 5) sc__law_joined.nd rfl (.inr rfl) (se_comp (t := (.nm 10)) (pe_lc (own := [("_law_own", 10)]) rfl sc__law_joined.nd (we (v_ 5)) (blkOk_by (own := [("_law_own", 10)]) (by kernel_rfl)) (fun _ _ _ _ _ => (nm_ 10 sc__law_joined.nd)) (fun _ _ _ _ _ => sts_nil) (fun _ _ _ _ _ => (if_ (t_eq hr (v_ 10) (ix_ (v_ 5) (v_ 8))) (ix_ (v_ 5) (v_ 7)) (v_ 10)))) (by decide)))))))
    (ss_one (ss_ret (call_ (ok__law_numbered T) hr (by decide) (a1 (v_ 5) a0))))))))))

theorem ok__law_column (T : Top K mg) : Callee P w K mg base 2 "_law_column" 3 m__law_column := mkC (k := 1) T.d__law_column sc__law_column rfl rfl (fun _ _ _ _ _ _ us hl => match us, hl with | [_, _, _], _ => rfl) fun f cdv A outer s H E hr =>
    (ss_cons (ss_setComp (t := (.nm 8)) (ps_setLc (i := 3) (own := [("_law_room", 8)]) rfl sc__law_column.nd rfl rfl (sw_true rfl rfl rfl (by kernel_rfl)) (rg1_ T.b_range (v_ 1)) (blkOk_by (own := [("_law_room", 8)]) (by kernel_rfl)) (fun _ _ _ _ _ => (nm_ 8 sc__law_column.nd)) (fun _ _ _ _ _ => sts_nil) (fun _ _ _ _ _ => (call_ (ok__law_next T) hr (by decide) (a1 (v_ 0) (a1 (v_ 1) a0))))) (by decide))
    (ss_cons (ss_put (ps_asg (tup_ (a1 (ix_ (v_ 3) ci) (a1 (ix_ (v_ 3) (neg_ ci)) a0))) (sg_tup (pg_tup rfl (pgs_cons (nm_ 5 sc__law_column.nd) (pgs_cons (nm_ 6 sc__law_column.nd) pgs_nil))) rfl)))
    (ss_cons (ss_if (t_eq hr (v_ 2) ci) (ss_one (ss_ret (v_ 3))) ss_nil)
    (ss_cons (ss_if (t_eq hr (v_ 2) ci) (ss_one (ss_ret (mul_ (lst_ (a1 (v_ 5) a0)) (v_ 1)))) ss_nil)
    (ss_cons (ss_if (t_eq hr (v_ 2) ci) (ss_one (ss_ret (se_comp (t := (.tp [8, 9])) (pe_lc (own := [("_law_room", 8), ("_law_goal", 9)]) rfl sc__law_column.nd (enum_ T.b_enumerate (v_ 3)) (blkOk_by (own := [("_law_room", 8), ("_law_goal", 9)]) (by kernel_rfl)) (fun _ _ _ _ _ => (pg_tup rfl (pgs_cons (nm_ 8 sc__law_column.nd) (pgs_cons (nm_ 9 sc__law_column.nd) pgs_nil)))) (fun _ _ _ _ _ => sts_nil) (fun _ _ _ _ _ => (if_ (t_le (v_ 8) (v_ 5)) (mod_ (v_ 9) (add_ (v_ 5) ci)) (add_ (add_ (v_ 5) ci) (mod_ (v_ 9) (sub_ (sub_ (v_ 1) (v_ 5)) ci)))))) (by decide)))) ss_nil)
    (ss_cons (ss_set (ps_set (i := 4) sc__law_column.nd rfl (.inl rfl) (lrg1_ T.b_list T.b_range (v_ 1))))
    (ss_cons (ss_if (t_eq hr (v_ 2) ci) (ss_one (ss_ret (add_ (sl_ (v_ 4) (o1 ci) o0) (sl_ (v_ 4) o0 (o1 ci))))) ss_nil)
    (ss_cons (ss_if (t_lt (v_ 2) ci) (ss_cons (ss_set (ps_set (i := 7) sc__law_column.nd rfl (.inr rfl) (lrg1_ T.b_list T.b_range (v_ 1))))
    (ss_one (ss_setComp (t := (.nm 9)) (ps_setLc (i := 4) (own := [("_law_goal", 9)]) rfl sc__law_column.nd rfl rfl (sw_true rfl rfl rfl (by kernel_rfl)) (we (v_ 3)) (blkOk_by (own := [("_law_goal", 9)]) (by kernel_rfl)) (fun _ _ _ _ _ => (nm_ 9 sc__law_column.nd)) (fun _ _ _ _ _ => sts_nil) (fun _ _ _ _ _ => (pop_ (pe_bm PySem.F.plainAttrs_list PySem.F.slot_list_pop PySem.F.type_list_pop mt_popAt (v_ 7) (pa1 (mod_ (v_ 9) (len_ T.b_len (v_ 7)))))))) (by decide)))) ss_nil)
    (ss_cons (ss_if (t_in hr (v_ 2) (tup_ (a1 ci (a1 ci a0)))) (ss_one (ss_put (ps_asg (ix_ (v_ 4) (v_ 6)) (sg_ix (pg_sub (v_ 4) (v_ 5) set_list))))) ss_nil)
    (ss_one (ss_ret (v_ 4))))))))))))

theorem ok__law_machine (T : Top K mg) : Callee P w K mg base 3 "_law_machine" 3 m__law_machine := mkC (k := 2) T.d__law_machine sc__law_machine rfl rfl (fun _ _ _ _ _ _ us hl => match us, hl with | [_, _, _], _ => rfl) fun f cdv A outer s H E hr =>
    (ss_cons (ss_set (ps_set (i := 3) sc__law_machine.nd rfl (.inl rfl) (add_ ci (call_ (ok__law_next T) hr (by decide) (a1 (v_ 0) (a1 (ix_ (lst_ (a1 ci (a1 ci (a1 (v_ 1) a0)))) (call_ (ok__law_next T) hr (by decide) (a1 (v_ 0) (a1 ci a0)))) a0))))))
    (ss_cons (ss_set (ps_set (i := 4) sc__law_machine.nd rfl (.inl rfl) (add_ ci (call_ (ok__law_next T) hr (by decide) (a1 (v_ 0) (a1 (v_ 2) a0))))))
    (ss_cons (ss_set (ps_set (i := 5) sc__law_machine.nd rfl (.inl rfl) (call_ (ok__law_next T) hr (by decide) (a1 (v_ 0) (a1 ci a0)))))
    (ss_cons (ss_set (ps_set (i := 6) sc__law_machine.nd rfl (.inr rfl) (lst_ a0)))
    (ss_cons (ss_for (ps_for PassesOwn.never rfl (rg1_ T.b_range (v_ 4)) (sg_name (nm_ 7 sc__law_machine.nd)) (ss_cons (ss_set (ps_set (i := 8) sc__law_machine.nd rfl (.inl rfl) (ix_ (lst_ (a1 ci (a1 ci a0))) (mod_ (v_ 7) ci))))
    (ss_cons (ss_if (t_lt (v_ 5) ci) (ss_one (ss_set (ps_set (i := 8) sc__law_machine.nd rfl (.inl rfl) (v_ 5)))) ss_nil)
    (ss_cons (ss_if (t_eq hr (v_ 5) ci) (ss_one (ss_set (ps_set (i := 8) sc__law_machine.nd rfl (.inl rfl) (call_ (ok__law_next T) hr (by decide) (a1 (v_ 0) (a1 ci a0)))))) ss_nil)
    (ss_one (ss_do (app_ (pe_bm PySem.F.plainAttrs_list PySem.F.slot_list_append PySem.F.type_list_append mt_append (v_ 6) (pa1 (call_ (ok__law_column T) hr (by decide) (a1 (v_ 0) (a1 (v_ 3) (a1 (v_ 8) a0))))))) (ps_expr (app_ (pe_bm PySem.F.plainAttrs_list PySem.F.slot_list_append PySem.F.type_list_append mt_append (v_ 6) (pa1 (call_ (ok__law_column T) hr (by decide) (a1 (v_ 0) (a1 (v_ 3) (a1 (v_ 8) a0)))))))))))))))
    (ss_cons (ss_if (t_eq hr (v_ 5) ci) (ss_one (ss_set (ps_set (i := 6) sc__law_machine.nd rfl (.inr rfl) (mul_ (sl_ (v_ 6) o0 (o1 ci)) (v_ 4))))) ss_nil)
    (ss_one (ss_ret (tuple_ T.b_tuple (se_comp (t := (.nm 9)) (pe_lc (own := [("_law_room", 9)]) rfl sc__law_machine.nd (rg1_ T.b_range (v_ 3)) (blkOk_by (own := [("_law_room", 9)]) (by kernel_rfl)) (fun _ _ _ _ _ => (nm_ 9 sc__law_machine.nd)) (fun _ _ _ _ _ => sts_nil) (fun _ _ _ _ _ => (tuple_ T.b_tuple (se_comp (t := (.nm 10)) (pe_lc (own := [("_law_column_here", 10)]) rfl sc__law_machine.nd (we (v_ 6)) (blkOk_by (own := [("_law_column_here", 10)]) (by kernel_rfl)) (fun _ _ _ _ _ => (nm_ 10 sc__law_machine.nd)) (fun _ _ _ _ _ => sts_nil) (fun _ _ _ _ _ => (ix_ (v_ 10) (v_ 9)))) (by decide))))) (by decide)))))))))))

theorem ok__law_copies (T : Top K mg) : Callee P w K mg base 4 "_law_copies" 3 m__law_copies := mkC (k := 3) T.d__law_copies sc__law_copies rfl rfl (fun _ _ _ _ _ _ us hl => match us, hl with | [_, _, _], _ => rfl) fun f cdv A outer s H E hr =>
    (ss_cons (ss_set (ps_set (i := 3) sc__law_copies.nd rfl (.inr rfl) (call_ (ok__law_machine T) hr (by decide) (a1 (v_ 0) (a1 ci (a1 (v_ 2) a0))))))
    (ss_cons (ss_set (ps_set (i := 4) sc__law_copies.nd rfl (.inl rfl) (add_ (len_ T.b_len (v_ 3)) (call_ (ok__law_next T) hr (by decide) (a1 (v_ 0) (a1 (sub_ (add_ (v_ 1) ci) (len_ T.b_len (v_ 3))) a0))))))
    (ss_cons (ss_set (ps_set (i := 5) sc__law_copies.nd rfl (.inr rfl) (add_ (lrg1_ T.b_list T.b_range (len_ T.b_len (v_ 3))) (se_comp (t := (.nm 12)) (pe_lc (own := [("_law_room", 12)]) rfl sc__law_copies.nd (rg1_ T.b_range (sub_ (v_ 4) (len_ T.b_len (v_ 3)))) (blkOk_by (own := [("_law_room", 12)]) (by kernel_rfl)) (fun _ _ _ _ _ => (nm_ 12 sc__law_copies.nd)) (fun _ _ _ _ _ => sts_nil) (fun _ _ _ _ _ => (call_ (ok__law_next T) hr (by decide) (a1 (v_ 0) (a1 (len_ T.b_len (v_ 3)) a0))))) (by decide)))))
    (ss_cons (ss_set (ps_set (i := 6) sc__law_copies.nd rfl (.inl rfl) (call_ (ok__law_next T) hr (by decide) (a1 (v_ 0) (a1 (v_ 4) a0)))))
    (ss_cons (ss_set (ps_set (i := 5) sc__law_copies.nd rfl (.inr rfl) (add_ (sl_ (v_ 5) (o1 (v_ 6)) o0) (sl_ (v_ 5) o0 (o1 (v_ 6))))))
    (ss_cons (ss_set (ps_set (i := 7) sc__law_copies.nd rfl (.inl rfl) (lst_ a0)))
    (ss_cons (ss_for (ps_for PassesOwn.never rfl (we (v_ 5)) (sg_name (nm_ 8 sc__law_copies.nd)) (ss_cons (ss_set (ps_set (i := 9) sc__law_copies.nd rfl (.inl rfl) (lst_ a0)))
    (ss_cons (ss_for (ps_for PassesOwn.never rfl (we (ix_ (v_ 3) (v_ 8))) (sg_name (nm_ 10 sc__law_copies.nd)) (ss_cons (ss_setComp (t := (.nm 12)) (ps_setLc (i := 11) (own := [("_law_room", 12)]) rfl sc__law_copies.nd rfl rfl (sw_true rfl rfl rfl (by kernel_rfl)) (rg1_ T.b_range (v_ 4)) (blkOk_by (own := [("_law_room", 12)]) (by kernel_rfl)) (fun _ _ _ _ _ => (nm_ 12 sc__law_copies.nd)) (fun _ _ _ _ _ => (sts_one (t_eq hr (ix_ (v_ 5) (v_ 12)) (v_ 10)))) (fun _ _ _ _ _ => (v_ 12))) (by decide))
    (ss_one (ss_do (app_ (pe_bm PySem.F.plainAttrs_list PySem.F.slot_list_append PySem.F.type_list_append mt_append (v_ 9) (pa1 (ix_ (v_ 11) (call_ (ok__law_next T) hr (by decide) (a1 (v_ 0) (a1 (len_ T.b_len (v_ 11)) a0))))))) (ps_expr (app_ (pe_bm PySem.F.plainAttrs_list PySem.F.slot_list_append PySem.F.type_list_append mt_append (v_ 9) (pa1 (ix_ (v_ 11) (call_ (ok__law_next T) hr (by decide) (a1 (v_ 0) (a1 (len_ T.b_len (v_ 11)) a0)))))))))))))
    (ss_one (ss_do (app_ (pe_bm PySem.F.plainAttrs_list PySem.F.slot_list_append PySem.F.type_list_append mt_append (v_ 7) (pa1 (tuple_ T.b_tuple (v_ 9))))) (ps_expr (app_ (pe_bm PySem.F.plainAttrs_list PySem.F.slot_list_append PySem.F.type_list_append mt_append (v_ 7) (pa1 (tuple_ T.b_tuple (v_ 9))))))))))))
    (ss_one (ss_ret (tup_ (a1 (tuple_ T.b_tuple (v_ 7)) (a1 (v_ 5) a0))))))))))))

theorem ok__law_begin (T : Top K mg) : Callee P w K mg base 1 "_law_begin" 1 m__law_begin := mkC (k := 0) T.d__law_begin sc__law_begin rfl rfl (fun _ _ _ _ _ _ us hl => match us, hl with | [_], _ => rfl) fun f cdv A outer s H E hr =>
    (ss_cons (ss_set (ps_set (i := 1) sc__law_begin.nd rfl (.inl rfl) ci))
    (ss_cons (ss_for (ps_for PassesOwn.never rfl (we (sl_ (v_ 0) o0 (o1 ci))) (sg_name (nm_ 2 sc__law_begin.nd)) (ss_one (ss_set (ps_set (i := 1) sc__law_begin.nd rfl (.inl rfl) (mod_ (add_ (add_ (mul_ (v_ 1) ci) (v_ 2)) ci) ci))))))
    (ss_one (ss_ret (se_kd (sps_cons cs (se_comp (t := (.nm 2)) (pe_lc (own := [("_law_cell", 2)]) rfl sc__law_begin.nd (we (sl_ (v_ 0) o0 (o1 ci))) (blkOk_by (own := [("_law_cell", 2)]) (by kernel_rfl)) (fun _ _ _ _ _ => (nm_ 2 sc__law_begin.nd)) (fun _ _ _ _ _ => (sts_one (t_ge (v_ 2) (pow_ ci ci)))) (fun _ _ _ _ _ => (v_ 2))) (by decide)) (sps_cons cs (v_ 1) sps_nil)) rfl rfl (fun z => by cases z) (by decide))))))

theorem ok_law (T : Top K mg) {f : Addr} {fd : FuncData} (F : Fun K "law" "law" s_law f fd) : FnOk P w K mg base CX0 10 f fd ["_law_script"] (spF K 1 m_law) := okLaw (k := 9) F sc_law rfl rfl fun f cdv A outer s H E hr =>
    (ss_cons (ss_set (ps_set (i := 1) sc_law.nd rfl (.inr rfl) (call_ (ok__law_begin T) hr (by decide) (a1 (v_ 0) a0))))
    (ss_cons (ss_for (ps_for PassesOwn.never rfl (rg1_ T.b_range (min2_ T.b_min ci (add_ ci (len_ T.b_len (v_ 0))))) (sg_name (nm_ 2 sc_law.nd)) (ss_cons (ss_put (ps_asg (call_ (ok__law_copies T) hr (by decide) (a1 (v_ 1) (a1 ci (a1 ci a0)))) (sg_tup (pg_tup rfl (pgs_cons (nm_ 5 sc_law.nd) (pgs_cons (nm_ 6 sc_law.nd) pgs_nil))) rfl)))
    (ss_cons (ss_set (ps_set (i := 3) sc_law.nd rfl (.inl rfl) (call_ (ok__law_numbered T) hr (by decide) (a1 (v_ 6) a0))))
    (ss_cons (ss_if (t_eq hr (call_ (ok__law_next T) hr (by decide) (a1 (v_ 1) (a1 ci a0))) ci) (ss_cons (ss_set (ps_set (i := 5) sc_law.nd rfl (.inr rfl) (call_ (ok__law_machine T) hr (by decide) (a1 (v_ 1) (a1 ci (a1 ci a0))))))
    (ss_cons (ss_setComp (t := (.nm 8)) (ps_setLc (i := 7) (own := [("_law_k", 8)]) rfl sc_law.nd rfl rfl (sw_true rfl rfl rfl (by kernel_rfl)) (rg1_ T.b_range (mul_ ci (call_ (ok__law_next T) hr (by decide) (a1 (v_ 1) (a1 ci a0))))) (blkOk_by (own := [("_law_k", 8)]) (by kernel_rfl)) (fun _ _ _ _ _ => (nm_ 8 sc_law.nd)) (fun _ _ _ _ _ => sts_nil) (fun _ _ _ _ _ => (call_ (ok__law_next T) hr (by decide) (a1 (v_ 1) (a1 (len_ T.b_len (v_ 5)) a0))))) (by decide))
    (ss_one (ss_set (ps_set (i := 3) sc_law.nd rfl (.inl rfl) (call_ (ok__law_joined T) hr (by decide) (a1 (v_ 5) (a1 (lzi_ rfl T.b_list T.b_zip (pk_ (by decide) (v_ 7) o0) (pk_ (by decide) (v_ 7) (o1 ci))) a0)))))))) ss_nil)
    (ss_one (ss_for (ps_for PassesOwn.never rfl (we (lst_ (a1 (v_ 3) (a1 (trg1_ T.b_tuple T.b_range (len_ T.b_len (v_ 5))) (a1 (mulT_ (tup_ (a1 ci a0)) (len_ T.b_len (v_ 5))) (a1 (v_ 3) a0)))))) (sg_name (nm_ 4 sc_law.nd)) (ss_one (ss_if (t_not (t_val (call_ (ok__law_is T 8) hr (by decide) (a1 (call_ (ok_folded T) hr (by decide) (a1 (v_ 5) (a1 (v_ 4) a0))) (a1 (call_ (ok__law_due T) hr (by decide) (a1 (v_ 5) (a1 (v_ 4) a0))) a0))))) (ss_one (ss_ret cb_)) ss_nil))))))))))
    (ss_one (ss_ret cb_))))

end
theorem all_mk {l : PySem.W.OpenLaw} {w : World} {K : PySem.W.Frag} {h : Heap} {mg : Str → Option Value} {fa : Addr} (X : K.In h) (G : h.Ns mainGlobals mg) (hfa : mg "law" = some (.ref fa))
    {f0 : Addr} {od0 an0 : Option Addr} {sl0 : Array (Option Value)} {oc0 kV0 dc0 pm0 cd0 ct0 : Value}
    (a0 : PySem.W.nsIn K mainGlobals "_law_is" = some (some (.ref f0))) (l0 : K.lookup f0 = some ⟨oc0, od0, .func (PySem.W.fnOf "_law_is" "_law_is" (defArgs s__law_is) (defBody s__law_is) (defScope s__law_is) .none kV0 dc0 pm0 an0 cd0 ct0), sl0⟩) (c0 : PySem.W.codeIn K cd0 "_law_is" = true) (k0 : PySem.W.keepIn K (.ref f0) = true)
    {f1 : Addr} {od1 an1 : Option Addr} {sl1 : Array (Option Value)} {oc1 kV1 dc1 pm1 cd1 ct1 : Value}
    (a1 : PySem.W.nsIn K mainGlobals "_law_due" = some (some (.ref f1))) (l1 : K.lookup f1 = some ⟨oc1, od1, .func (PySem.W.fnOf "_law_due" "_law_due" (defArgs s__law_due) (defBody s__law_due) (defScope s__law_due) .none kV1 dc1 pm1 an1 cd1 ct1), sl1⟩) (c1 : PySem.W.codeIn K cd1 "_law_due" = true) (k1 : PySem.W.keepIn K (.ref f1) = true)
    {f2 : Addr} {od2 an2 : Option Addr} {sl2 : Array (Option Value)} {oc2 kV2 dc2 pm2 cd2 ct2 : Value}
    (a2 : PySem.W.nsIn K mainGlobals "folded" = some (some (.ref f2))) (l2 : K.lookup f2 = some ⟨oc2, od2, .func (PySem.W.fnOf "folded" "folded" (defArgs s_folded) (defBody s_folded) (defScope s_folded) .none kV2 dc2 pm2 an2 cd2 ct2), sl2⟩) (c2 : PySem.W.codeIn K cd2 "folded" = true) (k2 : PySem.W.keepIn K (.ref f2) = true)
    {f3 : Addr} {od3 an3 : Option Addr} {sl3 : Array (Option Value)} {oc3 kV3 dc3 pm3 cd3 ct3 : Value}
    (a3 : PySem.W.nsIn K mainGlobals "_law_next" = some (some (.ref f3))) (l3 : K.lookup f3 = some ⟨oc3, od3, .func (PySem.W.fnOf "_law_next" "_law_next" (defArgs s__law_next) (defBody s__law_next) (defScope s__law_next) .none kV3 dc3 pm3 an3 cd3 ct3), sl3⟩) (c3 : PySem.W.codeIn K cd3 "_law_next" = true) (k3 : PySem.W.keepIn K (.ref f3) = true)
    {f4 : Addr} {od4 an4 : Option Addr} {sl4 : Array (Option Value)} {oc4 kV4 dc4 pm4 cd4 ct4 : Value}
    (a4 : PySem.W.nsIn K mainGlobals "_law_numbered" = some (some (.ref f4))) (l4 : K.lookup f4 = some ⟨oc4, od4, .func (PySem.W.fnOf "_law_numbered" "_law_numbered" (defArgs s__law_numbered) (defBody s__law_numbered) (defScope s__law_numbered) .none kV4 dc4 pm4 an4 cd4 ct4), sl4⟩) (c4 : PySem.W.codeIn K cd4 "_law_numbered" = true) (k4 : PySem.W.keepIn K (.ref f4) = true)
    {f5 : Addr} {od5 an5 : Option Addr} {sl5 : Array (Option Value)} {oc5 kV5 dc5 pm5 cd5 ct5 : Value}
    (a5 : PySem.W.nsIn K mainGlobals "_law_joined" = some (some (.ref f5))) (l5 : K.lookup f5 = some ⟨oc5, od5, .func (PySem.W.fnOf "_law_joined" "_law_joined" (defArgs s__law_joined) (defBody s__law_joined) (defScope s__law_joined) .none kV5 dc5 pm5 an5 cd5 ct5), sl5⟩) (c5 : PySem.W.codeIn K cd5 "_law_joined" = true) (k5 : PySem.W.keepIn K (.ref f5) = true)
    {f6 : Addr} {od6 an6 : Option Addr} {sl6 : Array (Option Value)} {oc6 kV6 dc6 pm6 cd6 ct6 : Value}
    (a6 : PySem.W.nsIn K mainGlobals "_law_column" = some (some (.ref f6))) (l6 : K.lookup f6 = some ⟨oc6, od6, .func (PySem.W.fnOf "_law_column" "_law_column" (defArgs s__law_column) (defBody s__law_column) (defScope s__law_column) .none kV6 dc6 pm6 an6 cd6 ct6), sl6⟩) (c6 : PySem.W.codeIn K cd6 "_law_column" = true) (k6 : PySem.W.keepIn K (.ref f6) = true)
    {f7 : Addr} {od7 an7 : Option Addr} {sl7 : Array (Option Value)} {oc7 kV7 dc7 pm7 cd7 ct7 : Value}
    (a7 : PySem.W.nsIn K mainGlobals "_law_machine" = some (some (.ref f7))) (l7 : K.lookup f7 = some ⟨oc7, od7, .func (PySem.W.fnOf "_law_machine" "_law_machine" (defArgs s__law_machine) (defBody s__law_machine) (defScope s__law_machine) .none kV7 dc7 pm7 an7 cd7 ct7), sl7⟩) (c7 : PySem.W.codeIn K cd7 "_law_machine" = true) (k7 : PySem.W.keepIn K (.ref f7) = true)
    {f8 : Addr} {od8 an8 : Option Addr} {sl8 : Array (Option Value)} {oc8 kV8 dc8 pm8 cd8 ct8 : Value}
    (a8 : PySem.W.nsIn K mainGlobals "_law_copies" = some (some (.ref f8))) (l8 : K.lookup f8 = some ⟨oc8, od8, .func (PySem.W.fnOf "_law_copies" "_law_copies" (defArgs s__law_copies) (defBody s__law_copies) (defScope s__law_copies) .none kV8 dc8 pm8 an8 cd8 ct8), sl8⟩) (c8 : PySem.W.codeIn K cd8 "_law_copies" = true) (k8 : PySem.W.keepIn K (.ref f8) = true)
    {f9 : Addr} {od9 an9 : Option Addr} {sl9 : Array (Option Value)} {oc9 kV9 dc9 pm9 cd9 ct9 : Value}
    (a9 : PySem.W.nsIn K mainGlobals "_law_begin" = some (some (.ref f9))) (l9 : K.lookup f9 = some ⟨oc9, od9, .func (PySem.W.fnOf "_law_begin" "_law_begin" (defArgs s__law_begin) (defBody s__law_begin) (defScope s__law_begin) .none kV9 dc9 pm9 an9 cd9 ct9), sl9⟩) (c9 : PySem.W.codeIn K cd9 "_law_begin" = true) (k9 : PySem.W.keepIn K (.ref f9) = true)
    {f10 : Addr} {od10 an10 : Option Addr} {sl10 : Array (Option Value)} {oc10 kV10 dc10 pm10 cd10 ct10 : Value}
    (a10 : PySem.W.nsIn K mainGlobals "law" = some (some (.ref f10))) (l10 : K.lookup f10 = some ⟨oc10, od10, .func (PySem.W.fnOf "law" "law" (defArgs s_law) (defBody s_law) (defScope s_law) .none kV10 dc10 pm10 an10 cd10 ct10), sl10⟩) (c10 : PySem.W.codeIn K cd10 "law" = true) (k10 : PySem.W.keepIn K (.ref f10) = true)
    (z_all : PySem.W.nsIn K mainGlobals "all" = some none)
    (z_bool : PySem.W.nsIn K mainGlobals "bool" = some none)
    (z_dict : PySem.W.nsIn K mainGlobals "dict" = some none)
    (z_enumerate : PySem.W.nsIn K mainGlobals "enumerate" = some none)
    (z_int : PySem.W.nsIn K mainGlobals "int" = some none)
    (z_isinstance : PySem.W.nsIn K mainGlobals "isinstance" = some none)
    (z_len : PySem.W.nsIn K mainGlobals "len" = some none)
    (z_list : PySem.W.nsIn K mainGlobals "list" = some none)
    (z_max : PySem.W.nsIn K mainGlobals "max" = some none)
    (z_min : PySem.W.nsIn K mainGlobals "min" = some none)
    (z_range : PySem.W.nsIn K mainGlobals "range" = some none)
    (z_tuple : PySem.W.nsIn K mainGlobals "tuple" = some none)
    (z_zip : PySem.W.nsIn K mainGlobals "zip" = some none) :
    ∃ fd : FuncData, (∀ (s : Shared) (v : Value), BindsTo s fd ⟨[v], []⟩ [("_law_script", v)]) ∧ ∀ base : Heap, K.In base → base.Ns mainGlobals mg → FnOk l.prog w K mg base CX0 10 fa fd ["_law_script"] (spF K 1 m_law) := by
  have e := hfa.symm.trans (PySem.W.mg_of X G a10)
  cases e
  have T : Top K mg := { d__law_is := df_mk X G a0 l0 c0 k0, d__law_due := df_mk X G a1 l1 c1 k1, d_folded := df_mk X G a2 l2 c2 k2, d__law_next := df_mk X G a3 l3 c3 k3, d__law_numbered := df_mk X G a4 l4 c4 k4, d__law_joined := df_mk X G a5 l5 c5 k5, d__law_column := df_mk X G a6 l6 c6 k6, d__law_machine := df_mk X G a7 l7 c7 k7, d__law_copies := df_mk X G a8 l8 c8 k8, d__law_begin := df_mk X G a9 l9 c9 k9, b_all := PySem.W.mg_none_of X G z_all, b_bool := PySem.W.mg_none_of X G z_bool, b_dict := PySem.W.mg_none_of X G z_dict, b_enumerate := PySem.W.mg_none_of X G z_enumerate, b_int := PySem.W.mg_none_of X G z_int, b_isinstance := PySem.W.mg_none_of X G z_isinstance, b_len := PySem.W.mg_none_of X G z_len, b_list := PySem.W.mg_none_of X G z_list, b_max := PySem.W.mg_none_of X G z_max, b_min := PySem.W.mg_none_of X G z_min, b_range := PySem.W.mg_none_of X G z_range, b_tuple := PySem.W.mg_none_of X G z_tuple, b_zip := PySem.W.mg_none_of X G z_zip }
  exact ⟨PySem.W.fnOf "law" "law" (defArgs s_law) (defBody s_law) (defScope s_law) .none kV10 dc10 pm10 an10 cd10 ct10, fun s v => .of_eq rfl, fun base _ _ => ok_law T (fun_mk (st := s_law) l10 c10 k10)⟩
end Q
open PySem PySem.W PyProof.Rows
set_option maxHeartbeats 0 in
theorem PySem.Challenge.cw_bringhome_k44_folded_machines_holds : PySem.Challenge.rw_bringhome_k44_folded_machines.Holds := by
  w_on; o_law; k_head; (case hw => w_witness2)
  k_fill
  refine L2.walk_of (l := PySem.Challenge.rw_bringhome_k44_folded_machines) (n := 63) (k := 10) (x := "_law_script") (CX := fun _ => L2.CX0) (sp := fun w => Q.spF _ 1 Q.m_law) rfl (by decide) rfl ⟨rfl, by decide, by decide⟩ (fun w h Y => PySem.W.kIn_of Y) ?F (fun _ H a ns hl hO hS => Q.law_sp Q.law_true H a ns hl hO hS _) (fun _ _ _ _ _ h => h)
  case F =>
    intro w mg fa h KX G hmg
    refine' Q.all_mk KX G hmg ?a0 ?l0 ?c0 ?k0 ?a1 ?l1 ?c1 ?k1 ?a2 ?l2 ?c2 ?k2 ?a3 ?l3 ?c3 ?k3 ?a4 ?l4 ?c4 ?k4 ?a5 ?l5 ?c5 ?k5 ?a6 ?l6 ?c6 ?k6 ?a7 ?l7 ?c7 ?k7 ?a8 ?l8 ?c8 ?k8 ?a9 ?l9 ?c9 ?k9 ?a10 ?l10 ?c10 ?k10 ?z_all ?z_bool ?z_dict ?z_enumerate ?z_int ?z_isinstance ?z_len ?z_list ?z_max ?z_min ?z_range ?z_tuple ?z_zip
    (case a0 => k_is); (case l0 => k_is); (case c0 => k_is); (case k0 => k_is); (case a1 => k_is); (case l1 => k_is); (case c1 => k_is); (case k1 => k_is); (case a2 => k_is); (case l2 => k_is); (case c2 => k_is); (case k2 => k_is); (case a3 => k_is); (case l3 => k_is); (case c3 => k_is); (case k3 => k_is); (case a4 => k_is); (case l4 => k_is); (case c4 => k_is); (case k4 => k_is); (case a5 => k_is); (case l5 => k_is); (case c5 => k_is); (case k5 => k_is); (case a6 => k_is); (case l6 => k_is); (case c6 => k_is); (case k6 => k_is); (case a7 => k_is); (case l7 => k_is); (case c7 => k_is); (case k7 => k_is); (case a8 => k_is); (case l8 => k_is); (case c8 => k_is); (case k8 => k_is); (case a9 => k_is); (case l9 => k_is); (case c9 => k_is); (case k9 => k_is); (case a10 => k_is); (case l10 => k_is); (case c10 => k_is); (case k10 => k_is); (case z_all => k_is); (case z_bool => k_is); (case z_dict => k_is); (case z_enumerate => k_is); (case z_int => k_is); (case z_isinstance => k_is); (case z_len => k_is); (case z_list => k_is); (case z_max => k_is); (case z_min => k_is); (case z_range => k_is); (case z_tuple => k_is); (case z_zip => k_is)
