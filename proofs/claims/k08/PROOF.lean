import PyProof.Rows.All
import Wide.All
import OpenK.AllK
import Wide.FinOn
import HandS.ForMost
import HandS.IsInst
import HandS.TupAny
import HandS.Deep
import HandS.SortInts
import HandS.Zip
import HandS.Style
import HandS.DictTup
import KE.KeyNested
import HandS.Nested
import HandS.Conv
import KE.GoesEnum
import HandS.Strs
import HandS.More
import KE.KDictDisplayH
import PyProof.Rows.Chain
import PyProof.StrLawsIn
import HandS.Text
import PyProof.StrLawsChain
import PyProof.StrLawsTight
import HandS.ExcInit
import HandS.WordsExc
import HandS.TryOnly
import KE.KExcIs
import HandS.ExcIs
import PySem.Challenge.RW_bringhome_k08_machines_refused
set_option Elab.async false
set_option linter.all false
set_option autoImplicit false
set_option maxRecDepth 100000
set_option maxHeartbeats 2000000
/-! Q: a def of the text as a plain function over data and a list of changeable objects. -/
namespace Q
open PySem L2

/-- data: what never changes, and places of what may -/
inductive D where
  | non | bl (b : Bool) | int (i : Int) | str (s : Str) | tup (xs : List D) | fl (xs : List D) | par (xs : List D) | ref (n : Nat) | lam (k : Nat) (xs : List D)
/-- what may change -/
inductive Ob where
  | lst (xs : List D) | dct (kvs : List (D × D)) | dcr (kvs : List (D × D)) | tab (q : Str)
/-- an expression's outcome: data, or a new object that nobody else holds -/
inductive Out where
  | v (d : D) | o (b : Ob)
abbrev Mem := List Ob
abbrev Env := List (Option D)
abbrev E := Env → Mem → Option (Out × Mem)
abbrev B := Env → Mem → Option (Bool × Mem)
abbrev A := Env → Mem → Option (List D × Mem)
inductive R where
  | nx (ρ : Env) (m : Mem) | rt (r : Out) (m : Mem) | bk (ρ : Env) (m : Mem) | ct (ρ : Env) (m : Mem)
abbrev S := Env → Mem → Option R
abbrev Fn := List D → Mem → Option (Out × Mem)

/-- within the line -/
def fits (n : Nat) : Prop := n ≤ sizeLine
noncomputable instance (n : Nat) : Decidable (fits n) := Classical.propDecidable _
@[simp] theorem fits_of {n : Nat} (h : n ≤ 100000) : fits n := Nat.le_trans h (by decide)

/-! ### how data lies in the layer's heap -/
def FlAt (K : PySem.W.Frag) (H : Hp) (a : Addr) (xs : List V) : Prop :=
  (∃ o, H a = some (.frz o (.lst xs))) ∨
    ∃ (o : Obj) (its : Array Value) (n : Nat), K.lookup a = some o ∧ o.cls = .type "list" ∧ o.dict = none ∧ o.data = .seq its n ∧ its.size ≤ sizeLine ∧ Vals xs its.toList
theorem FlAt.sq {K : PySem.W.Frag} {H : Hp} {a : Addr} {xs : List V} (h : FlAt K H a xs) : SqL K H a xs := by
  rcases h with ⟨o, h⟩ | h
  · exact .inl (.inr ⟨o, h⟩)
  · exact .inr h
/-- a plain tuple -/
def TpAt (K : PySem.W.Frag) (H : Hp) (a : Addr) (xs : List V) : Prop :=
  (∃ o, H a = some (.frz o (.tup xs)) ∧ o.dict = none) ∨
    ∃ (o : Obj) (its : Array Value) (n : Nat), K.lookup a = some o ∧ o.cls = .type "tuple" ∧ o.dict = none ∧ o.data = .seq its n ∧ its.size ≤ sizeLine ∧ Vals xs its.toList
theorem TpAt.sq {K : PySem.W.Frag} {H : Hp} {a : Addr} {xs : List V} (h : TpAt K H a xs) : SqT K H a xs := by
  rcases h with ⟨o, h, _⟩ | ⟨o, its, n, h1, h2, _, h3⟩
  · exact .inl (.inr ⟨o, h⟩)
  · exact .inr ⟨o, its, n, h1, h2, h3⟩
/-- a tuple that a walk has made, to be taken apart -/
def PrAt (H : Hp) (a : Addr) (xs : List V) : Prop := H a = some (.tup xs)
/-- what never changes while it is so -/
def Fz : HO → Prop
  | .tup _ => True
  | .frz _ _ => True
  | _ => False
/-- a thing that is known to the object -/
def FzO (a : Addr) (o : Obj) : HO := .frz o (.ext fun h => h.get? a = some o)
theorem FzO.ok {P : Program} {w : World} {H : Hp} {h : Heap} {a : Addr} {o : Obj} (e : h.get? a = some o) : ObjOk P w H h a (FzO a o) := ⟨e, e, ⟨o, e⟩, fun h1 h2 q k => k _ q⟩
/-- a code object's name -/
def CodeNm (o : Obj) (q : Str) : Prop := ∃ (vs : Array Value) (t : Tok), o.data = .fields vs ∧ vs[1]? = some (.str q t)
/-- what a lambda's body answers: 0: len(x) <= c; 1: all([y in c for y in x]) -/
def lamB (K : PySem.W.Frag) (H : Hp) : Nat → V → List Int → Bool → Prop
  | 0, w, ns, b => ∃ i : Int, w = .int i ∧ b = decide ((ns.length : Int) ≤ i)
  | 1, w, ns, b => ∃ (c : Addr) (ms : List Int), w = .ref c ∧ TpAt K H c (ms.map V.int) ∧ b = ns.all fun x => decide (x ∈ ms)
  | _, _, _, _ => False
def lamT (K : PySem.W.Frag) (k : Nat) : TE := fun σ H Q => ∃ (a : Addr) (ns : List Int) (w : V) (b : Bool), σ[0]? = some (some (.ref a)) ∧ TpAt K H a (ns.map V.int) ∧ σ[1]? = some (some w) ∧ k + 2 ≤ σ.length ∧ lamB K H k w ns b ∧
  ∀ H', (∀ a o, H a = some o → H' a = some o) → Q (.bl b) H'
/-- the text of a lambda with one parameter that captures one name -/
structure LamX where
  params : Arguments
  body : Expr
  scope : Scope
  prm : Str
  cap : Str
  N : List Str
/-- its body keeps what is told of it, in any frame of its own -/
structure LamSem (K : PySem.W.Frag) (k : Nat) (L : LamX) : Prop where
  sc : NdefX.NScope L.N [L.prm] [L.cap] L.scope
  nn : k + 2 ≤ L.N.length
  bind : ∀ (q : Str) (cl : List (Str × Addr)) (pm cv ctv u : Value), bindArgs (PySem.W.kla_fn "<lambda>" q L.params L.body L.scope cl pm cv ctv) ⟨[u], []⟩ = pure [(L.prm, u)]
  run : ∀ (P : Program) (w : World) (mg : Str → Option Value) (base : Heap), K.In base → base.Ns mainGlobals mg → ∀ (q : Str) (cl : List (Str × Addr)) (c f : Addr) (A : Around) (outer : List PySem.Env) (s : Shared) (H : Hp) (E : XK), Room 1 (A.deeper (NdefX.envF ⟨"<lambda>", q, L.params, [], L.scope, cl, c⟩ f s.heap.objs.size)) →
    PE (NdefX.ncx CX0 P w K mg base L.N ⟨"<lambda>", q, L.params, [], L.scope, cl, c⟩ f A outer s H E) L.body (lamT K k)
/-- a lambda in the heap: its function, its cell, its code object are known -/
def LamAt (K : PySem.W.Frag) (H : Hp) (k : Nat) (f : Addr) (vs : List V) : Prop := ∃ (L : LamX) (q : Str) (c cell : Addr) (pm ctv : Value) (ocd ocl : Obj) (v : V) (u : Value), vs = [v] ∧ LamSem K k L ∧
  H f = some (FzO f (PySem.W.kla_obj "<lambda>" q L.params L.body L.scope [(L.cap, cell)] pm c ctv)) ∧ H c = some (FzO c ocd) ∧ CodeNm ocd q ∧ H cell = some (FzO cell ocl) ∧ ocl.data = .cell (some u) ∧ RelV v u
mutual
inductive RV (K : PySem.W.Frag) (ι : List Addr) (H : Hp) : D → V → Prop
  | non : RV K ι H .non .non
  | bl (b : Bool) : RV K ι H (.bl b) (.bl b)
  | int (i : Int) : RV K ι H (.int i) (.int i)
  | str (s : Str) : RV K ι H (.str s) (.str s)
  | tup {a : Addr} {vs : List V} {ds : List D} : TpAt K H a vs → RVs K ι H ds vs → RV K ι H (.tup ds) (.ref a)
  | fl {a : Addr} {vs : List V} {ds : List D} : FlAt K H a vs → RVs K ι H ds vs → RV K ι H (.fl ds) (.ref a)
  | par {a : Addr} {vs : List V} {ds : List D} : PrAt H a vs → RVs K ι H ds vs → RV K ι H (.par ds) (.ref a)
  | ref {n : Nat} {a : Addr} : ι[n]? = some a → RV K ι H (.ref n) (.ref a)
  | lam {a : Addr} {k : Nat} {vs : List V} {ds : List D} : LamAt K H k a vs → RVs K ι H ds vs → RV K ι H (.lam k ds) (.ref a)
inductive RVs (K : PySem.W.Frag) (ι : List Addr) (H : Hp) : List D → List V → Prop
  | nil : RVs K ι H [] []
  | cons {d : D} {v : V} {ds : List D} {vs : List V} : RV K ι H d v → RVs K ι H ds vs → RVs K ι H (d :: ds) (v :: vs)
end
/-- the layer's heap goes on: what can't change stays, and what is not in ι; new places were free -/
structure Le (ι : List Addr) (H : Hp) (ι' : List Addr) (H' : Hp) : Prop where
  pre : ∃ nw, ι' = ι ++ nw ∧ ∀ a ∈ nw, H a = none
  keep : ∀ a o, H a = some o → (Fz o ∨ a ∉ ι) → H' a = some o
theorem Le.refl (ι : List Addr) (H : Hp) : Le ι H ι H := ⟨⟨[], by simp, by simp⟩, fun _ _ h _ => h⟩
theorem Le.trans {ι ι1 ι2 : List Addr} {H H1 H2 : Hp} (p : Le ι H ι1 H1) (q : Le ι1 H1 ι2 H2) (g : ∀ a ∈ ι, H1 a ≠ none) : Le ι H ι2 H2 := by
  obtain ⟨n1, e1, f1⟩ := p.pre
  obtain ⟨n2, e2, f2⟩ := q.pre
  refine ⟨⟨n1 ++ n2, by rw [e2, e1, List.append_assoc], fun a ha => ?_⟩, fun a o h c => ?_⟩
  · rcases List.mem_append.mp ha with h | h
    · exact f1 a h
    · have h1 := f2 a h
      cases q0 : H a with
      | none => rfl
      | some o =>
        by_cases hi : a ∈ ι
        · exact absurd h1 (g a hi)
        · rw [p.keep a o q0 (.inr hi)] at h1; cases h1
  · refine q.keep a o (p.keep a o h c) (c.imp id fun hi hm => ?_)
    rw [e1] at hm
    rcases List.mem_append.mp hm with z | z
    · exact hi z
    · rw [f1 a z] at h; cases h
theorem Le.ix {ι ι' : List Addr} {H H' : Hp} (p : Le ι H ι' H') {n : Nat} {a : Addr} (h : ι[n]? = some a) : ι'[n]? = some a := by
  obtain ⟨nw, e, _⟩ := p.pre
  rw [e, List.getElem?_append_left (List.getElem?_eq_some_iff.mp h).1]
  exact h
/-- the weaker one: what can't change stays -/
structure Kp (ι : List Addr) (H : Hp) (ι' : List Addr) (H' : Hp) : Prop where
  ix : ∀ (n : Nat) (a : Addr), ι[n]? = some a → ι'[n]? = some a
  kp : ∀ a o, H a = some o → Fz o → H' a = some o
theorem Le.k {ι ι' : List Addr} {H H' : Hp} (p : Le ι H ι' H') : Kp ι H ι' H' := ⟨fun _ _ h => p.ix h, fun a o h c => p.keep a o h (.inl c)⟩
theorem Kp.rdT {K : PySem.W.Frag} {ι ι' : List Addr} {H H' : Hp} (p : Kp ι H ι' H') {a : Addr} {vs : List V} (h : TpAt K H a vs) : TpAt K H' a vs := by
  rcases h with ⟨o, h, hd⟩ | h
  · exact .inl ⟨o, p.kp _ _ h trivial, hd⟩
  · exact .inr h
theorem Kp.rdF {K : PySem.W.Frag} {ι ι' : List Addr} {H H' : Hp} (p : Kp ι H ι' H') {a : Addr} {vs : List V} (h : FlAt K H a vs) : FlAt K H' a vs := by
  rcases h with ⟨o, h⟩ | h
  · exact .inl ⟨o, p.kp _ _ h trivial⟩
  · exact .inr h
theorem Kp.rdL {K : PySem.W.Frag} {ι ι' : List Addr} {H H' : Hp} (p : Kp ι H ι' H') {a : Addr} {k : Nat} {vs : List V} (h : LamAt K H k a vs) : LamAt K H' k a vs := by
  obtain ⟨L, q, c, cell, pm, ctv, ocd, ocl, v, u, h1, h2, h4, h5, h6, h7, h8⟩ := h
  exact ⟨L, q, c, cell, pm, ctv, ocd, ocl, v, u, h1, h2, p.kp _ _ h4 trivial, p.kp _ _ h5 trivial, h6, p.kp _ _ h7 trivial, h8⟩
section
variable {K : PySem.W.Frag} {ι ι' : List Addr} {H H' : Hp}
mutual
theorem RV.kp (p : Kp ι H ι' H') : ∀ {d : D} {v : V}, RV K ι H d v → RV K ι' H' d v
  | _, _, .non => .non
  | _, _, .bl b => .bl b
  | _, _, .int i => .int i
  | _, _, .str s => .str s
  | _, _, .tup h r => .tup (p.rdT h) (RVs.kp p r)
  | _, _, .fl h r => .fl (p.rdF h) (RVs.kp p r)
  | _, _, .par h r => .par (p.kp _ _ h trivial) (RVs.kp p r)
  | _, _, .ref h => .ref (p.ix _ _ h)
  | _, _, .lam h r => .lam (p.rdL h) (RVs.kp p r)
theorem RVs.kp (p : Kp ι H ι' H') : ∀ {ds : List D} {vs : List V}, RVs K ι H ds vs → RVs K ι' H' ds vs
  | _, _, .nil => .nil
  | _, _, .cons h r => .cons (RV.kp p h) (RVs.kp p r)
end
theorem RV.mono (p : Le ι H ι' H') {d : D} {v : V} (h : RV K ι H d v) : RV K ι' H' d v := h.kp p.k
theorem RVs.mono (p : Le ι H ι' H') {ds : List D} {vs : List V} (h : RVs K ι H ds vs) : RVs K ι' H' ds vs := h.kp p.k
theorem RVs.length : ∀ {ds : List D} {vs : List V}, RVs K ι H ds vs → ds.length = vs.length
  | _, _, .nil => rfl
  | _, _, .cons _ r => by simp [RVs.length r]
theorem RVs.get : ∀ {ds : List D} {vs : List V} {i : Nat} {d : D}, RVs K ι H ds vs → ds[i]? = some d → ∃ v, vs[i]? = some v ∧ RV K ι H d v
  | _, _, _, _, .nil, e => by simp at e
  | _, _, 0, _, .cons r _, e => by simp at e; subst e; exact ⟨_, rfl, r⟩
  | _, _, i + 1, d, .cons _ t, e => by
    obtain ⟨u, h1, h2⟩ := RVs.get (i := i) (d := d) t (by simpa using e)
    exact ⟨u, by simpa using h1, h2⟩
theorem RVs.append : ∀ {xs ys : List D} {us ws : List V}, RVs K ι H xs us → RVs K ι H ys ws → RVs K ι H (xs ++ ys) (us ++ ws)
  | _, _, _, _, .nil, s => s
  | _, _, _, _, .cons r t, s => .cons r (RVs.append t s)
theorem RVs.take : ∀ {xs : List D} {us : List V} (n : Nat), RVs K ι H xs us → RVs K ι H (xs.take n) (us.take n)
  | _, _, 0, _ => by simp; exact .nil
  | _, _, _ + 1, .nil => .nil
  | _, _, n + 1, .cons r t => .cons r (RVs.take n t)
theorem RVs.drop : ∀ {xs : List D} {us : List V} (n : Nat), RVs K ι H xs us → RVs K ι H (xs.drop n) (us.drop n)
  | _, _, 0, r => r
  | _, _, _ + 1, .nil => .nil
  | _, _, n + 1, .cons _ t => RVs.drop n t
theorem RVs.set {x : D} {u : V} (r : RV K ι H x u) : ∀ {xs : List D} {us : List V} (i : Nat), RVs K ι H xs us → RVs K ι H (xs.set i x) (us.set i u)
  | _, _, _, .nil => .nil
  | _, _, 0, .cons _ t => .cons r t
  | _, _, i + 1, .cons q t => .cons q (RVs.set r i t)
theorem RVs.reverse {xs : List D} {us : List V} (r : RVs K ι H xs us) : RVs K ι H xs.reverse us.reverse := by
  induction r using RVs.rec (motive_1 := fun _ _ _ => True) with
  | nil => exact .nil
  | cons h _ _ ih => rw [List.reverse_cons, List.reverse_cons]; exact ih.append (.cons h .nil)
  | _ => trivial
theorem RVs.eraseIdx : ∀ {xs : List D} {us : List V} (n : Nat), RVs K ι H xs us → RVs K ι H (xs.eraseIdx n) (us.eraseIdx n)
  | _, _, _, .nil => .nil
  | _, _, 0, .cons r t => t
  | _, _, n + 1, .cons r t => .cons r (RVs.eraseIdx n t)
theorem RVs.ints : ∀ (ns : List Int), RVs K ι H (ns.map D.int) (ns.map V.int)
  | [] => .nil
  | n :: r => .cons (.int n) (RVs.ints r)
/-- data without places, read backward -/
theorem RVs.of_ints : ∀ {ns : List Int} {vs : List V}, RVs K ι H (ns.map D.int) vs → vs = ns.map V.int
  | [], _, .nil => rfl
  | n :: r, _, .cons h t => by cases h; rw [RVs.of_ints (ns := r) t]; rfl
theorem RVs.of_bls : ∀ {ns : List Bool} {vs : List V}, RVs K ι H (ns.map D.bl) vs → vs = ns.map V.bl
  | [], _, .nil => rfl
  | n :: r, _, .cons h t => by cases h; rw [RVs.of_bls (ns := r) t]; rfl
theorem RVs.of_strs : ∀ {ns : List Str} {vs : List V}, RVs K ι H (ns.map D.str) vs → vs = ns.map V.str
  | [], _, .nil => rfl
  | n :: r, _, .cons h t => by cases h; rw [RVs.of_strs (ns := r) t]; rfl
theorem RVs.strs : ∀ (ns : List Str), RVs K ι H (ns.map D.str) (ns.map V.str)
  | [] => .nil
  | n :: r => .cons (.str n) (RVs.strs r)
end

/-- a dict: in the layer's two forms -/
def kD : Key → D
  | .inl i => .int i
  | .inr x => .str x
/-- a dict with any keys that have no texts: by its entries -/
def RawO (a : Addr) (es : Array DictEntry) : HO := .ext fun h => DT.Raw h a es es.size
mutual
def kN : NestedKey → D
  | .none => .non
  | .num i => .int i
  | .text x => .str x
  | .tup ks => .tup (kNs ks)
def kNs : List NestedKey → List D
  | [] => []
  | k :: ks => kN k :: kNs ks
end
mutual
inductive KN (K : PySem.W.Frag) (H : Hp) : NestedKey → V → Prop
  | non : KN K H .none .non
  | num (i : Int) : KN K H (.num i) (.int i)
  | tup {a : Addr} {vs : List V} {ks : List NestedKey} : TpAt K H a vs → KNs K H ks vs → KN K H (.tup ks) (.ref a)
inductive KNs (K : PySem.W.Frag) (H : Hp) : List NestedKey → List V → Prop
  | nil : KNs K H [] []
  | cons {k : NestedKey} {v : V} {ks : List NestedKey} {vs : List V} : KN K H k v → KNs K H ks vs → KNs K H (k :: ks) (v :: vs)
end
section
variable {K : PySem.W.Frag} {ι ι' : List Addr} {H H' : Hp}
mutual
theorem KN.kp (p : Kp ι H ι' H') : ∀ {k : NestedKey} {v : V}, KN K H k v → KN K H' k v
  | _, _, .non => .non
  | _, _, .num i => .num i
  | _, _, .tup h r => .tup (p.rdT h) (KNs.kp p r)
theorem KNs.kp (p : Kp ι H ι' H') : ∀ {k : List NestedKey} {v : List V}, KNs K H k v → KNs K H' k v
  | _, _, .nil => .nil
  | _, _, .cons h r => .cons (KN.kp p h) (KNs.kp p r)
end
mutual
theorem KN.rv : ∀ {k : NestedKey} {v : V}, KN K H k v → RV K ι H (kN k) v
  | _, _, .non => by rw [kN]; exact .non
  | _, _, .num i => by rw [kN]; exact .int i
  | _, _, .tup h r => by rw [kN]; exact .tup h (KNs.rv r)
theorem KNs.rv : ∀ {k : List NestedKey} {v : List V}, KNs K H k v → RVs K ι H (kNs k) v
  | _, _, .nil => by rw [kNs]; exact .nil
  | _, _, .cons h r => by rw [kNs]; exact .cons (KN.rv h) (KNs.rv r)
end
end
def EntV (K : PySem.W.Frag) (H : Hp) (x : NestedKey × V) (e : DictEntry) : Prop := (∃ kv, KN K H x.1 kv ∧ RelV kv e.key) ∧ (∀ w, e.hash = x.1.hash w) ∧ RelV x.2 e.val ∧ x.1.depth ≤ 8
def RawD (K : PySem.W.Frag) (H : Hp) (a : Addr) (ks : List (NestedKey × V)) : Prop := ∃ es, H a = some (RawO a es) ∧ Paired (EntV K H) ks es.toList ∧ (ks.map (·.1)).Nodup ∧ ks.length ≤ sizeLine ∧ (a == sysModules) = false
theorem RawD.kp {K : PySem.W.Frag} {ι ι' : List Addr} {H H' : Hp} {a : Addr} {ks : List (NestedKey × V)} (p : Kp ι H ι' H') (e : H' a = H a) (h : RawD K H a ks) : RawD K H' a ks := by
  obtain ⟨es, h1, h2, h3⟩ := h
  exact ⟨es, by rw [e]; exact h1, Paired.mapP h2 fun x e ⟨⟨kv, z1, z2⟩, z3⟩ => ⟨⟨kv, z1.kp p, z2⟩, z3⟩, h3⟩
/-- the table of the code objects of a def's lambdas -/
def TabF (K : PySem.W.Frag) (H : Hp) (P : Addr) (x : Str) : Prop := (∃ c, PySem.W.tabIn K x = some (c, P)) ∧ ∃ ps : Array Value, H P = some (.tbl ps) ∧ TriplesOk ps.toList ∧
  ∀ (pos : Pos) (cv : Value), codeAmong pos ps.toList = some cv → ∃ c o, cv = .ref c ∧ H c = some (FzO c o) ∧ CodeNm o (x ++ ".<locals>." ++ "<lambda>")
theorem TabF.kp {K : PySem.W.Frag} {ι ι' : List Addr} {H H' : Hp} {a : Addr} {x : Str} (p : Kp ι H ι' H') (e : H' a = H a) (h : TabF K H a x) : TabF K H' a x := by
  obtain ⟨h0, ps, h1, h2, h3⟩ := h
  exact ⟨h0, ps, by rw [e]; exact h1, h2, fun pos cv hc => let ⟨c, o, e1, e2, e3⟩ := h3 pos cv hc; ⟨c, o, e1, p.kp _ _ e2 trivial, e3⟩⟩
/-- what lies at a place -/
def RB (K : PySem.W.Frag) (ι : List Addr) (H : Hp) : Ob → Addr → Prop
  | .lst xs, a => ∃ vs, H a = some (.lst vs) ∧ RVs K ι H xs vs
  | .dct kvs, a => ∃ ks : List (Key × V), H a = some (.dK ks) ∧ Paired (fun (p : D × D) (q : Key × V) => p.1 = kD q.1 ∧ RV K ι H p.2 q.2) kvs ks
  | .dcr kvs, a => ∃ ks : List (NestedKey × V), RawD K H a ks ∧ Paired (fun (p : D × D) (q : NestedKey × V) => p.1 = kN q.1 ∧ RV K ι H p.2 q.2) kvs ks
  | .tab q, a => TabF K H a q
theorem RB.isat {K : PySem.W.Frag} {ι : List Addr} {H : Hp} {b : Ob} {a : Addr} (h : RB K ι H b a) : H a ≠ none := by
  intro z
  cases b with
  | lst xs => obtain ⟨vs, e, _⟩ := h; rw [z] at e; cases e
  | dct kvs => obtain ⟨vs, e, _⟩ := h; rw [z] at e; cases e
  | dcr kvs => obtain ⟨vs, ⟨es, e, _⟩, _⟩ := h; rw [z] at e; cases e
  | tab q => obtain ⟨_, ps, e, _⟩ := h; rw [z] at e; cases e
theorem RB.kp {K : PySem.W.Frag} {ι ι' : List Addr} {H H' : Hp} {b : Ob} {a : Addr} (p : Kp ι H ι' H') (e : H' a = H a) (h : RB K ι H b a) : RB K ι' H' b a := by
  cases b with
  | lst xs => obtain ⟨vs, e1, r⟩ := h; exact ⟨vs, by rw [e]; exact e1, r.kp p⟩
  | dct kvs => obtain ⟨vs, e1, r⟩ := h; exact ⟨vs, by rw [e]; exact e1, Paired.mapP r fun _ _ z => ⟨z.1, z.2.kp p⟩⟩
  | dcr kvs => obtain ⟨vs, e1, r⟩ := h; exact ⟨vs, e1.kp p e, Paired.mapP r fun _ _ z => ⟨z.1, z.2.kp p⟩⟩
  | tab q => exact TabF.kp p e h
theorem RB.mono {K : PySem.W.Frag} {ι ι' : List Addr} {H H' : Hp} {b : Ob} {a : Addr} (p : Le ι H ι' H') (e : H' a = H a) (h : RB K ι H b a) : RB K ι' H' b a := h.kp p.k e

structure RM (K : PySem.W.Frag) (ι : List Addr) (H : Hp) (m : Mem) : Prop where
  nd : ι.Nodup
  len : ι.length = m.length
  ob : ∀ (n : Nat) (b : Ob), m[n]? = some b → ∃ a, ι[n]? = some a ∧ RB K ι H b a
/-- all sizes are within the line -/
def Bnd (K : PySem.W.Frag) (H : Hp) : Prop := ∀ a vs, SqL K H a vs ∨ SqT K H a vs → vs.length ≤ sizeLine
/-- an outcome, seen from the heap H0 ahead of it -/
def RO (K : PySem.W.Frag) (H0 : Hp) (ι : List Addr) (H : Hp) : Out → V → Prop
  | .v d, v => RV K ι H d v
  | .o b, v => ∃ p, v = .ref p ∧ H0 p = none ∧ p ∉ ι ∧ RB K ι H b p
def RS (K : PySem.W.Frag) (ι : List Addr) (H : Hp) (σ : St) (ρ : Env) : Prop := σ.length = ρ.length ∧ ∀ (i : Nat) (d : D), ρ[i]? = some (some d) → ∃ v, σ[i]? = some (some v) ∧ RV K ι H d v
section
variable {K : PySem.W.Frag} {ι ι' ι2 : List Addr} {H H0 H' H2 : Hp} {m m' : Mem} {σ : St} {ρ : Env}
theorem RS.kp (p : Kp ι H ι' H') (h : RS K ι H σ ρ) : RS K ι' H' σ ρ := ⟨h.1, fun i d e => let ⟨v, a, b⟩ := h.2 i d e; ⟨v, a, b.kp p⟩⟩
theorem nofz {o : HO} (mu : Mut (some o)) (f : Fz o) : False := by cases o <;> first | exact mu | exact f
/-- an object is written anew -/
theorem Kp.upd {a : Addr} {o : HO} (mu : Mut (H a)) : Kp ι H ι (L2.upd H a o) := ⟨fun _ _ h => h, fun b u h c => by
  by_cases z : b = a
  · subst z; rw [h] at mu; exact (nofz mu c).elim
  · rw [upd_ne z]; exact h⟩
theorem Kp.newAt {a : Addr} {o : HO} (mu : H a = none) : Kp ι H ι (L2.upd H a o) := ⟨fun _ _ h => h, fun b u h c => by rw [upd_ne (ne_of_none h mu)]; exact h⟩
theorem RS.mono (p : Le ι H ι' H') (h : RS K ι H σ ρ) : RS K ι' H' σ ρ := ⟨h.1, fun i d e => let ⟨v, a, b⟩ := h.2 i d e; ⟨v, a, b.mono p⟩⟩
theorem RM.there (h : RM K ι H m) : ∀ a ∈ ι, H a ≠ none := fun a ha => by
  obtain ⟨n, hn, e⟩ := List.getElem_of_mem ha
  have hm : n < m.length := by rw [← h.len]; exact hn
  obtain ⟨a', e1, rb⟩ := h.ob n m[n] (List.getElem?_eq_getElem hm)
  rw [List.getElem?_eq_getElem hn, e] at e1
  cases e1
  exact rb.isat
theorem Le.subset (p : Le ι H ι' H') : ∀ a ∈ ι, a ∈ ι' := fun a ha => by
  obtain ⟨nw, e, _⟩ := p.pre; rw [e]; exact List.mem_append_left _ ha
theorem Le.thereB (p : Le ι H ι' H') (h : RM K ι' H' m) : ∀ a ∈ ι, H' a ≠ none := fun a ha => h.there a (p.subset a ha)
theorem Le.tr (p : Le ι H ι' H') (h : RM K ι' H' m) (q : Le ι' H' ι2 H2) : Le ι H ι2 H2 := p.trans q (p.thereB h)
theorem Le.back (p : Le ι H ι' H') (h : RM K ι' H' m) {a : Addr} (e : H' a = none) : H a = none := by
  cases q : H a with
  | none => rfl
  | some o =>
    by_cases hi : a ∈ ι
    · exact absurd e (p.thereB h a hi)
    · rw [p.keep a o q (.inr hi)] at e; cases e
/-- an outcome that was there stays -/
theorem RO.mono {r : Out} {v : V} (h : RO K H0 ι H r v) (p : Le ι H ι' H') : RO K H0 ι' H' r v := by
  cases r with
  | v d => exact RV.mono p h
  | o b =>
    obtain ⟨q, e, e0, hi, rb⟩ := h
    have hs := rb.isat
    refine ⟨q, e, e0, fun hm => ?_, ?_⟩
    · obtain ⟨nw, e2, f⟩ := p.pre
      rw [e2] at hm
      rcases List.mem_append.mp hm with z | z
      · exact hi z
      · exact hs (f q z)
    · refine rb.mono p ?_
      cases q1 : H q with
      | none => exact absurd q1 hs
      | some o => exact p.keep q o q1 (.inr hi)
/-- seen from further back -/
theorem RO.from {H1 : Hp} {ι0 : List Addr} {r : Out} {v : V} (h : RO K H1 ι' H' r v) (p : Le ι0 H0 ι H1) (rm : RM K ι H1 m) : RO K H0 ι' H' r v := by
  cases r with
  | v d => exact h
  | o b =>
    obtain ⟨q, e, e0, hi, rb⟩ := h
    exact ⟨q, e, p.back rm e0, hi, rb⟩
def val : Out → Mem → D × Mem
  | .v d, m => (d, m)
  | .o b, m => (.ref m.length, m ++ [b])
@[simp] theorem val_v (d : D) (m : Mem) : val (.v d) m = (d, m) := rfl
@[simp] theorem val_o (b : Ob) (m : Mem) : val (.o b) m = (.ref m.length, m ++ [b]) := rfl
/-- a new object is given a place -/
theorem RO.val {ι0 : List Addr} {r : Out} {v : V} (h : RO K H0 ι H r v) (p : Le ι0 H0 ι H) (rm : RM K ι H m) (rs : RS K ι H σ ρ) :
    ∃ ι', Le ι0 H0 ι' H ∧ RM K ι' H (val r m).2 ∧ RV K ι' H (val r m).1 v ∧ RS K ι' H σ ρ ∧ (∀ d u, RV K ι H d u → RV K ι' H d u) ∧ (∀ ds us, RVs K ι H ds us → RVs K ι' H ds us) := by
  cases r with
  | v d => exact ⟨ι, p, rm, h, rs, fun _ _ z => z, fun _ _ z => z⟩
  | o b =>
    obtain ⟨q, e, e0, hi, rb⟩ := h
    have up : ∀ d u, RV K ι H d u → RV K (ι ++ [q]) H d u := by
      have L : Le ι (fun a => if a = q then none else H a) (ι ++ [q]) H := ⟨⟨[q], rfl, fun a ha => by simp at ha; simp [ha]⟩, fun a o h _ => by
        by_cases z : a = q
        · simp [z] at h
        · simpa [z] using h⟩
      intro d u r
      refine RV.rec (motive_1 := fun d u _ => RV K (ι ++ [q]) H d u) (motive_2 := fun ds us _ => RVs K (ι ++ [q]) H ds us) .non .bl .int .str (fun h _ r => .tup h r) (fun h _ r => .fl h r) (fun h _ r => .par h r) (fun h => .ref (L.ix h)) (fun h _ r => .lam h r) .nil (fun _ _ a b => .cons a b) r
    have ups : ∀ ds us, RVs K ι H ds us → RVs K (ι ++ [q]) H ds us := by
      intro ds us r
      induction r using RVs.rec (motive_1 := fun _ _ _ => True) with
      | nil => exact .nil
      | cons h _ _ ih => exact .cons (up _ _ h) ih
      | _ => trivial
    have upb : ∀ b a, RB K ι H b a → RB K (ι ++ [q]) H b a := fun b a h => by
      cases b with
      | lst xs => obtain ⟨vs, e1, r⟩ := h; exact ⟨vs, e1, ups _ _ r⟩
      | dct kvs => obtain ⟨vs, e1, r⟩ := h; exact ⟨vs, e1, Paired.mapP r fun _ _ z => ⟨z.1, up _ _ z.2⟩⟩
      | dcr kvs => obtain ⟨vs, e1, r⟩ := h; exact ⟨vs, e1, Paired.mapP r fun _ _ z => ⟨z.1, up _ _ z.2⟩⟩
      | tab q => exact h
    obtain ⟨nw, e1, f1⟩ := p.pre
    refine ⟨ι ++ [q], ⟨⟨nw ++ [q], by rw [e1, List.append_assoc], fun a ha => ?_⟩, fun a o h c => p.keep a o h c⟩, ⟨?_, ?_, fun n b' hb => ?_⟩, ?_, ⟨rs.1, fun i d e => let ⟨v, a, b⟩ := rs.2 i d e; ⟨v, a, up _ _ b⟩⟩, up, ups⟩
    · rcases List.mem_append.mp ha with z | z
      · exact f1 a z
      · simp at z; rw [z]; exact e0
    · rw [List.nodup_append]
      exact ⟨rm.nd, by simp, fun a ha b hb => by simp at hb; subst hb; intro z; subst z; exact hi ha⟩
    · show (ι ++ [q]).length = (m ++ [b]).length
      simp [rm.len]
    · have hb' : (m ++ [b])[n]? = some b' := hb
      by_cases hn : n < m.length
      · rw [List.getElem?_append_left hn] at hb'
        obtain ⟨a, e2, rb2⟩ := rm.ob n b' hb'
        exact ⟨a, by rw [List.getElem?_append_left (by rw [rm.len]; exact hn)]; exact e2, upb _ _ rb2⟩
      · rw [List.getElem?_append_right (by omega)] at hb'
        have : n = m.length := by
          by_cases z : n - m.length = 0
          · omega
          · rw [List.getElem?_eq_none (by simp; omega)] at hb'; cases hb'
        subst this
        simp at hb'
        subst hb'
        refine ⟨q, ?_, upb _ _ rb⟩
        rw [← rm.len]; simp
    · subst e
      refine .ref ?_
      rw [← rm.len]; simp
end
end Q
/-! new tuples are plain: the layer's rules, telling so -/
namespace Q
open PySem L2
open PyProof.Rows (IsTup)
abbrev TpN (H : Hp) (xs : List V) (Q : VK) : Prop := ∀ p o, H p = none → o.dict = none → Q (.ref p) (upd H p (.frz o (.tup xs)))
theorem tup_ok {P : Program} {w : World} {H : Hp} {h : Heap} {a : Addr} {xs : List V} {us : List Value} {ar : Array Value} {n : Nat} (z : xs.length ≤ sizeLine) (r : Vals xs us) (e : ar = us.toArray) (g : h.get? a = some { cls := .type "tuple", data := .seq ar n }) : ObjOk P w H h a (.frz { cls := .type "tuple", data := .seq ar n } (.tup xs)) := by
  subst e
  exact ⟨g, z, us, r, _, g, rfl, n, rfl⟩
section
variable {X : Cx}
def tTupN (t : TA) : TE := fun σ H Q => t σ H fun xs H1 => xs.length ≤ sizeLine ∧ TpN H1 xs Q
theorem pe_tupN {es : List Expr} {t : TA} {x1 : Nat} {pos : Pos} (h : PA X es t) : PE X (.Tuple es x1 pos) (tTupN t) := by
  refine ⟨fun pins s σ H Q I hq => ?_⟩
  refine PySem.wpAny_Tuple_spliced (thn (h.run pos pins s σ H _ I hq) fun us s1 ⟨xs, H1, I1, r, z, q⟩ => ⟨by rw [← r.length]; exact z, ?_⟩)
  have hf : H1 s1.heap.objs.size = none := I1.hok.fresh (Nat.le_refl _)
  exact ⟨.ref s1.heap.objs.size, upd H1 s1.heap.objs.size (.frz _ (.tup xs)), I1.laid (t' := s1.toks) (fun b u e => Heap.get?_push_of_some _ e) (Nat.le_refl _) (tup_ok z r rfl (Heap.get?_push_size _ rfl)), rfl, q _ _ hf rfl⟩
theorem call_tuple_ofN : CallR X (.type "tuple") (fun xs H Q => ∃ p ys, xs = [.ref p] ∧ ((SqL X.K H p ys ∧ TpN H ys Q) ∨ (SqT X.K H p ys ∧ Q (.ref p) H))) := by
  intro pins s σ H xs us Q I r h
  obtain ⟨p, ys, rfl, h⟩ := h
  obtain ⟨u, rfl, rx⟩ := vals1 r
  cases rx
  rcases h with ⟨hq, q⟩ | ⟨hq, q⟩
  · obtain ⟨its, r', pl, hz⟩ := I.list hq
    have hlen := r'.length
    refine PySem.call_tuple_list pl.isList (fun h' kp => ?_) (by simp only [List.size_toArray] <;> omega)
    have I1 : Inv X pins σ H { s with heap := h' } := I.kept (t' := s.toks) kp
    have I2 : Inv X pins σ (upd H h'.objs.size (.frz { cls := .type "tuple", data := .seq its.toArray } (.tup ys))) { s with heap := h'.push { cls := .type "tuple", data := .seq its.toArray } } :=
      I1.laid (t' := s.toks) (fun b o e => Heap.get?_push_of_some _ e) (Nat.le_refl _) (tup_ok hz r' rfl (Heap.get?_push_size _ rfl))
    exact ⟨.ref h'.objs.size, _, I2, rfl, q _ _ (I1.hok.fresh (Nat.le_refl _)) rfl⟩
  · obtain ⟨its, r', pl, hz⟩ := I.tuple hq
    exact PySem.call_tuple_same pl ⟨.ref p, H, I, rfl, q⟩
def rSlN (K : PySem.W.Frag) : V → Option Int → Option Int → Hp → VK → Prop := fun x lo hi H Q => ∃ a xs, x = .ref a ∧ SqT K H a xs ∧
  (HT.sIx xs.length 0 lo = 0 ∧ HT.sIx xs.length xs.length hi = xs.length → Q (.ref a) H) ∧ (¬ (HT.sIx xs.length 0 lo = 0 ∧ HT.sIx xs.length xs.length hi = xs.length) → TpN H (cutV xs lo hi) Q)
theorem sl_tupN : SlR X (rSlN X.K) := by
  intro pins s σ H x v vl vu lo hi sl Q I rx hs pl pu h
  obtain ⟨a, xs, rfl, hx, q1, q2⟩ := h
  cases rx
  obtain ⟨its, r, ht, hz⟩ := I.tuple hx
  have hlen : its.toArray.size = xs.length := by rw [List.size_toArray]; exact r.length.symm
  by_cases hw : HT.sIx xs.length 0 lo = 0 ∧ HT.sIx xs.length xs.length hi = xs.length
  · refine ⟨"tuple", _, PyProof.Rows.slot_tuple_getitem.lookup, ht.typeIs, ?_⟩
    exact getItem_tuple_whole ht hs pl pu (by rw [hlen]; exact hw) ⟨.ref a, H, I, rfl, q1 hw⟩
  · refine ⟨"tuple", _, PyProof.Rows.slot_tuple_getitem.lookup, ht.typeIs, ?_⟩
    refine HT.getItem_tuple_cut ht hs pl pu (by rw [hlen]; exact hw) ?_ (by rw [hlen]; exact hz)
    rw [hlen]
    exact ⟨.ref s.heap.objs.size, _, I.laid (t' := s.toks) (o := .frz _ (.tup (cutV xs lo hi))) (fun b ob q => Heap.get?_push_of_some _ q) (Nat.le_refl _) (tup_ok (Nat.le_trans (cutV_length xs lo hi) hz) ((r.drop (HT.sIx xs.length 0 lo)).take (HT.sIx xs.length xs.length hi - HT.sIx xs.length 0 lo)) rfl (Heap.get?_push_size _ rfl)), rfl, q2 hw _ _ (I.hok.fresh (Nat.le_refl _)) rfl⟩
def rCatN (K : PySem.W.Frag) : R2 := fun x y H Q => ∃ a b xs ys, x = .ref a ∧ y = .ref b ∧ SqT K H a xs ∧ SqT K H b ys ∧ xs.length + ys.length ≤ sizeLine ∧
  (xs = [] → Q (.ref b) H) ∧ (xs ≠ [] → ys = [] → Q (.ref a) H) ∧ (xs ≠ [] → ys ≠ [] → TpN H (xs ++ ys) Q)
theorem nil_iffV {xs : List V} {us : List Value} (r : Vals xs us) : us = [] ↔ xs = [] := by
  cases r with
  | nil => simp
  | cons _ _ => simp
theorem op_catN : OpR X (binaryOp .Add) (rCatN X.K) := by
  intro pins s σ H x y v u Q I rx ry h
  obtain ⟨a, b, xs, ys, rfl, rfl, ha, hb, hz, q0, q1, q2⟩ := h
  cases rx
  cases ry
  obtain ⟨its, r1, p1, _⟩ := I.tuple ha
  obtain ⟨its2, r2, p2, _⟩ := I.tuple hb
  by_cases hx : xs = []
  · subst hx
    cases r1
    exact cat_tup0 p1 p2 ⟨.ref b, H, I, rfl, q0 rfl⟩
  · refine HT.cat_tup p1 p2 (fun z => hx ((nil_iffV r1).mp z)) (fun z => ⟨.ref a, H, I, rfl, q1 hx ((nil_iffV r2).mp z)⟩) (fun z => ?_) (by rw [← r1.length, ← r2.length]; exact hz)
    exact ⟨.ref s.heap.objs.size, _, I.laid (t' := s.toks) (o := .frz _ (.tup (xs ++ ys))) (fun b ob q => Heap.get?_push_of_some _ q) (Nat.le_refl _) (tup_ok (by rw [List.length_append]; exact hz) (r1.append r2) rfl (Heap.get?_push_size _ rfl)), rfl, q2 hx (fun w => z ((nil_iffV r2).mpr w)) _ _ (I.hok.fresh (Nat.le_refl _)) rfl⟩
variable {e : Expr} {te : St → Hp → (Int → Int → Hp → Prop) → Prop}
def tTupRgN (te : St → Hp → (Int → Int → Hp → Prop) → Prop) : TE := fun σ H Q => te σ H fun a b H1 => RgOk a b ∧ TpN H1 (rgV a b) Q
theorem pe_tupRgN {p pos : Pos} (hc : X.calm = true) (hg : Gl X "tuple") (hm : X.mg "tuple" = none) (he : PRg X e te) (na : starEach [e] X.env = (false, eval e X.env) :: starEach [] X.env := by rfl) : PE X (.Call (.Name "tuple" p) [e] [] pos) (tTupRgN te) := by
  refine ⟨fun pins s σ H Q I h => ?_⟩
  refine PyProof.Rows.Call_ (ld_blt I hg hm PyProof.Rows.boot_tuple (PyProof.Rows.callWith_type1 (PyProof.Rows.args_cons (thn (he pins s σ H _ I h) fun x s1 ⟨r, a, b, t, u, v, H1, ex, hr, I1, ok, q⟩ => PyProof.Rows.args_nil ?_) na) na))
  subst ex
  obtain ⟨b1, b2, b3, b4, b5⟩ := ok
  refine call_tuple_range (n := (b - a).toNat) (I1.ok.hd hc) hr (small_one b1 b2 b3 b4) (PyProof.Rows.rangeSize_nat a b) b5 fun h' tk acc hk hi => ?_
  have I2 : Inv X pins σ H1 { s1 with heap := h', toks := tk } := I1.kept hk
  refine ⟨.ref h'.objs.size, upd H1 h'.objs.size (.frz _ (.tup (rgV a b))), I2.laid (t' := tk) (fun c o e => Heap.get?_push_of_some _ e) (Nat.le_refl _) (tup_ok ?_ (vals_rg hi) (by simp) (Heap.get?_push_size _ rfl)), rfl, q _ _ (I2.hok.fresh (Nat.le_refl _)) rfl⟩
  rw [rgV_length, sizeLine_eq]; omega
end
end Q
namespace Q
open PySem L2

/-! ### readings -/
def tE (K : PySem.W.Frag) (f : E) : TE := fun σ H Q => ∃ ι ρ m r m', RS K ι H σ ρ ∧ RM K ι H m ∧ f ρ m = some (r, m') ∧
  ∀ v ι' H', Le ι H ι' H' → RM K ι' H' m' → RO K H ι' H' r v → Bnd K H' → Q v H'
def tT (K : PySem.W.Frag) (f : B) : TT := fun σ H Q => ∃ ι ρ m r m', RS K ι H σ ρ ∧ RM K ι H m ∧ f ρ m = some (r, m') ∧
  ∀ ι' H', Le ι H ι' H' → RM K ι' H' m' → Bnd K H' → Q r H'
def tA (K : PySem.W.Frag) (f : A) : TA := fun σ H Q => ∃ ι ρ m ds m', RS K ι H σ ρ ∧ RM K ι H m ∧ f ρ m = some (ds, m') ∧
  ∀ vs ι' H', Le ι H ι' H' → RM K ι' H' m' → RVs K ι' H' ds vs → Bnd K H' → Q vs H'
def PR (K : PySem.W.Frag) (ι : List Addr) (H : Hp) (D : Ends) : R → Prop
  | .nx ρ m => ∀ σ ι' H', Le ι H ι' H' → RS K ι' H' σ ρ → RM K ι' H' m → D.nx σ H'
  | .rt r m => ∀ v ι' H', Le ι H ι' H' → RM K ι' H' m → RO K H ι' H' r v → D.rt v H'
  | .bk ρ m => ∀ σ ι' H', Le ι H ι' H' → RS K ι' H' σ ρ → RM K ι' H' m → D.bk σ H'
  | .ct ρ m => ∀ σ ι' H', Le ι H ι' H' → RS K ι' H' σ ρ → RM K ι' H' m → D.ct σ H'
def tS (K : PySem.W.Frag) (f : S) : TS := fun D σ H => ∃ ι ρ m r, RS K ι H σ ρ ∧ RM K ι H m ∧ f ρ m = some r ∧ PR K ι H D r
abbrev SE (X : Cx) (e : Expr) (f : E) : Prop := PE X e (tE X.K f)
abbrev ST (X : Cx) (e : Expr) (f : B) : Prop := PT X e (tT X.K f)
abbrev SW (X : Cx) (e : Expr) (f : B) : Prop := PW X e (tT X.K f)
abbrev SA (X : Cx) (es : List Expr) (f : A) : Prop := PA X es (tA X.K f)
abbrev SS (X : Cx) (st : Stmt) (f : S) : Prop := PS X st (tS X.K f)
abbrev SSs (X : Cx) (st : List Stmt) (f : S) : Prop := PSs X st (tS X.K f)

theorem PR.from {K : PySem.W.Frag} {ι ι1 : List Addr} {H H1 : Hp} {m : Mem} {D : Ends} (p : Le ι H ι1 H1) (rm : RM K ι1 H1 m) {r : R} (h : PR K ι H D r) : PR K ι1 H1 D r := by
  cases r with
  | nx ρ m' => exact fun σ ι' H' q a b => h σ ι' H' (p.tr rm q) a b
  | bk ρ m' => exact fun σ ι' H' q a b => h σ ι' H' (p.tr rm q) a b
  | ct ρ m' => exact fun σ ι' H' q a b => h σ ι' H' (p.tr rm q) a b
  | rt r m' => exact fun v ι' H' q a b => h v ι' H' (p.tr rm q) a (b.from p rm)

section
variable {X : Cx}
theorem bnd_of {pins : List (Addr × Obj)} {σ : St} {H : Hp} {s : Shared} (I : Inv X pins σ H s) : Bnd X.K H := fun a vs h => by
  rcases h with h | h
  · obtain ⟨_, _, _, z⟩ := I.list h; exact z
  · obtain ⟨_, _, _, z⟩ := I.tuple h; exact z
theorem pe_imp {e : Expr} {t t' : TE} (h : PE X e t) (hh : ∀ σ H Q, t' σ H Q → t σ H fun v H' => Bnd X.K H' → Q v H') : PE X e t' :=
  ⟨fun pins s σ H Q I q => thn (h.run pins s σ H _ I (hh σ H Q q)) fun u s1 ⟨v, H1, I1, r1, q1⟩ => ⟨v, H1, I1, r1, q1 (bnd_of I1)⟩⟩
theorem pt_imp {e : Expr} {t t' : TT} (h : PT X e t) (hh : ∀ σ H Q, t' σ H Q → t σ H fun v H' => Bnd X.K H' → Q v H') : PT X e t' :=
  ⟨fun pins s σ H Q I q => thn (h.run pins s σ H _ I (hh σ H Q q)) fun u s1 ⟨H1, I1, q1⟩ => ⟨H1, I1, q1 (bnd_of I1)⟩⟩
theorem pw_imp {e : Expr} {t t' : TT} (h : PW X e t) (hh : ∀ σ H Q, t' σ H Q → t σ H fun v H' => Bnd X.K H' → Q v H') : PW X e t' :=
  ⟨fun wh pins s σ H Q I q => thn (h.run wh pins s σ H _ I (hh σ H Q q)) fun u s1 ⟨H1, I1, q1⟩ => ⟨H1, I1, q1 (bnd_of I1)⟩⟩
theorem pa_imp {es : List Expr} {t t' : TA} (h : PA X es t) (hh : ∀ σ H Q, t' σ H Q → t σ H fun v H' => Bnd X.K H' → Q v H') : PA X es t' :=
  ⟨fun pos pins s σ H Q I q => thn (h.run pos pins s σ H _ I (hh σ H Q q)) fun u s1 ⟨v, H1, I1, r1, q1⟩ => ⟨v, H1, I1, r1, q1 (bnd_of I1)⟩⟩
theorem ps_imp {st : Stmt} {t t' : TS} (h : PS X st t) (hh : ∀ D σ H, t' D σ H → t D σ H) : PS X st t' := ⟨fun pins s σ H D I q => h.run pins s σ H D I (hh D σ H q)⟩
theorem pss_imp {st : List Stmt} {t t' : TS} (h : PSs X st t) (hh : ∀ D σ H, t' D σ H → t D σ H) : PSs X st t' := ⟨fun pins s σ H D I q => h.run pins s σ H D I (hh D σ H q)⟩
theorem pi_imp {tg it : Expr} {t t' : TI} (h : PI X tg it t) (hh : ∀ σ H R, t' σ H R → t σ H fun J H' => Bnd X.K H' → R J H') : PI X tg it t' :=
  ⟨fun pins s σ H R I q => thn (h.run pins s σ H _ I (hh σ H R q)) fun u s1 h1 => thn h1 fun v s2 ⟨it, fp, tn, J, H', e, I', T, t0, f, r⟩ => ⟨it, fp, tn, J, H', e, I', T, t0, f, r (bnd_of I')⟩⟩
theorem pg_imp {tg : Expr} {t t' : TG} (h : PG X tg t) (hh : ∀ v σ H Q, t' v σ H Q → t v σ H Q) : PG X tg t' := ⟨fun pins s σ H v u Q I r q => h.run pins s σ H v u Q I r (hh v σ H Q q)⟩
end

/-! ### expressions -/
@[simp] def eVar (i : Nat) (ρ : Env) (m : Mem) : Option (Out × Mem) := match ρ[i]? with | some (some d) => some (.v d, m) | _ => none
@[simp] def eC (d : D) (_ : Env) (m : Mem) : Option (Out × Mem) := some (.v d, m)
abbrev F2 := Out → Out → Mem → Option (Out × Mem)
abbrev F1 := Out → Mem → Option (Out × Mem)
@[simp] def eBin (f : F2) (a b : E) (ρ : Env) (m : Mem) : Option (Out × Mem) := (a ρ m).bind fun x => (b ρ x.2).bind fun y => f x.1 y.1 y.2
@[simp] def eUn (f : F1) (a : E) (ρ : Env) (m : Mem) : Option (Out × Mem) := (a ρ m).bind fun x => f x.1 x.2
@[simp] def eAnd (a b : E) (ρ : Env) (m : Mem) : Option (Out × Mem) := (a ρ m).bind fun x => match x.1 with | .v (.bl true) => b ρ x.2 | .v (.bl false) => some (.v (.bl false), x.2) | _ => none
@[simp] def eOr (a b : E) (ρ : Env) (m : Mem) : Option (Out × Mem) := (a ρ m).bind fun x => match x.1 with | .v (.bl false) => b ρ x.2 | .v (.bl true) => some (.v (.bl true), x.2) | _ => none
@[simp] def eNot (a : E) (ρ : Env) (m : Mem) : Option (Out × Mem) := (a ρ m).bind fun x => match x.1 with | .v (.bl b) => some (.v (.bl (!b)), x.2) | _ => none
@[simp] def eIf (c : B) (a b : E) (ρ : Env) (m : Mem) : Option (Out × Mem) := (c ρ m).bind fun x => match x.1 with | true => a ρ x.2 | false => b ρ x.2
@[simp] def bOf (a : E) (ρ : Env) (m : Mem) : Option (Bool × Mem) := (a ρ m).bind fun x => match x.1 with | .v (.bl b) => some (b, x.2) | _ => none
@[simp] def bAnd (a b : B) (ρ : Env) (m : Mem) : Option (Bool × Mem) := (a ρ m).bind fun x => match x.1 with | true => b ρ x.2 | false => some (false, x.2)
@[simp] def bOr (a b : B) (ρ : Env) (m : Mem) : Option (Bool × Mem) := (a ρ m).bind fun x => match x.1 with | false => b ρ x.2 | true => some (true, x.2)
@[simp] def bNot (a : B) (ρ : Env) (m : Mem) : Option (Bool × Mem) := (a ρ m).bind fun x => some (!x.1, x.2)
@[simp] def bYes (_ : Env) (m : Mem) : Option (Bool × Mem) := some (true, m)
@[simp] def aNil (_ : Env) (m : Mem) : Option (List D × Mem) := some ([], m)
@[simp] def aCons (a : E) (r : A) (ρ : Env) (m : Mem) : Option (List D × Mem) := (a ρ m).bind fun x => (r ρ (val x.1 x.2).2).bind fun y => some ((val x.1 x.2).1 :: y.1, y.2)
@[simp] noncomputable def eTup (a : A) (ρ : Env) (m : Mem) : Option (Out × Mem) := (a ρ m).bind fun x => if fits x.1.length then some (.v (.tup x.1), x.2) else none
@[simp] noncomputable def eLst (a : A) (ρ : Env) (m : Mem) : Option (Out × Mem) := (a ρ m).bind fun x => if fits x.1.length then some (.o (.lst x.1), x.2) else none
@[simp] def eCall (F : Fn) (a : A) (ρ : Env) (m : Mem) : Option (Out × Mem) := (a ρ m).bind fun x => F x.1 x.2

/-- what a two-place rule of the layer is to give for a plain function -/
def R2S (K : PySem.W.Frag) (r : R2) (f : F2) : Prop := ∀ (ι : List Addr) (H H0 : Hp) (m : Mem) (x y z : Out) (vx vy : V) (m' : Mem) (Q : VK), RM K ι H m → Bnd K H → RO K H0 ι H x vx → RO K H0 ι H y vy → f x y m = some (z, m') →
  (∀ v ι' H', Le ι H ι' H' → RM K ι' H' m' → RO K H ι' H' z v → Q v H') → r vx vy H Q
def R1S (K : PySem.W.Frag) (r : V → Hp → VK → Prop) (f : F1) : Prop := ∀ (ι : List Addr) (H H0 : Hp) (m : Mem) (x z : Out) (vx : V) (m' : Mem) (Q : VK), RM K ι H m → Bnd K H → RO K H0 ι H x vx → f x m = some (z, m') →
  (∀ v ι' H', Le ι H ι' H' → RM K ι' H' m' → RO K H ι' H' z v → Q v H') → r vx H Q
theorem bind_some {α β : Type} {x : Option α} {f : α → Option β} {b : β} (h : x.bind f = some b) : ∃ a, x = some a ∧ f a = some b := by
  cases x with
  | none => cases h
  | some a => exact ⟨a, rfl, h⟩
section
variable {X : Cx} {e a b c : Expr} {pos : Pos} {fa fb : E} {ca cb : B}
theorem se_var {i : Nat} (h : PE X e (tVar i)) : SE X e (eVar i) := pe_imp h fun σ H Q ⟨ι, ρ, m, r, m', rs, rm, hf, k⟩ => by
  unfold eVar at hf
  split at hf
  · rename_i d hd
    cases hf
    obtain ⟨v, e1, e2⟩ := rs.2 i d hd
    exact ⟨v, e1, fun bd => k v ι H (Le.refl _ _) rm e2 bd⟩
  · cases hf
theorem se_c {v : V} {d : D} (h : PE X e (tC v)) (hr : ∀ K ι H, RV K ι H d v) : SE X e (eC d) := pe_imp h fun σ H Q ⟨ι, ρ, m, r, m', rs, rm, hf, k⟩ => by
  cases hf
  exact fun bd => k v ι H (Le.refl _ _) rm (hr _ _ _) bd
theorem tOp_of {K : PySem.W.Frag} {ι : List Addr} {ρ : Env} {σ : St} {H : Hp} {m m' : Mem} {z : Out} {Q : VK} {r : R2} {f : F2} (hr : R2S K r f) (rs : RS K ι H σ ρ) (rm : RM K ι H m) (hf : eBin f fa fb ρ m = some (z, m'))
    (k : ∀ v ι' H', Le ι H ι' H' → RM K ι' H' m' → RO K H ι' H' z v → Q v H') : tOp r (tE K fa) (tE K fb) σ H Q := by
  obtain ⟨x, h1, hf⟩ := bind_some hf
  obtain ⟨y, h2, hf⟩ := bind_some hf
  refine ⟨ι, ρ, m, x.1, x.2, rs, rm, h1, fun v ι1 H1 l1 rm1 ro1 bd1 => ?_⟩
  refine ⟨ι1, ρ, x.2, y.1, y.2, rs.mono l1, rm1, h2, fun u ι2 H2 l2 rm2 ro2 bd2 => ?_⟩
  exact hr ι2 H2 H y.2 x.1 y.1 z v u m' _ rm2 bd2 (ro1.mono l2) (ro2.from l1 rm1) hf fun w ι3 H3 l3 rm3 ro3 => k w ι3 H3 (l1.tr rm1 (l2.tr rm2 l3)) rm3 (ro3.from (l1.tr rm1 l2) rm2)
theorem se_op {op : Operator} {r : R2} {f : F2} (ho : OpR X (binaryOp op) r) (hr : R2S X.K r f) (ha : SE X a fa) (hb : SE X b fb) : SE X (.BinOp a op b pos) (eBin f fa fb) :=
  pe_imp (pe_op ho ha hb) fun σ H Q ⟨ι, ρ, m, z, m', rs, rm, hf, k⟩ => tOp_of hr rs rm hf k
theorem se_cmp {op : CmpOp} {r : R2} {f : F2} (ho : OpR X (compareOp op) r) (hr : R2S X.K r f) (ha : SE X a fa) (hb : SE X b fb) (hm : behindInMarks op b = false) : SE X (.Compare a [op] [b] pos) (eBin f fa fb) :=
  pe_imp (pe_cmpR ho ha hb hm) fun σ H Q ⟨ι, ρ, m, z, m', rs, rm, hf, k⟩ => tOp_of hr rs rm hf k
theorem se_ix {r : R2} {f : F2} (ho : IxR X r) (hr : R2S X.K r f) (ha : SE X a fa) (hb : SE X b fb) (hs : PlainIx b) : SE X (.Subscript a b pos) (eBin f fa fb) :=
  pe_imp (pe_ix ho ha hb hs) fun σ H Q ⟨ι, ρ, m, z, m', rs, rm, hf, k⟩ => tOp_of hr rs rm hf k
theorem st_cmp {op : CmpOp} {r : R2} {f : F2} (ho : OpR X (compareOp op) r) (hr : R2S X.K r f) (ha : SE X a fa) (hb : SE X b fb) (hm : behindInMarks op b = false) : ST X (.Compare a [op] [b] pos) (bOf (eBin f fa fb)) :=
  pt_imp (pt_cmpR ho ha hb hm) fun σ H Q ⟨ι, ρ, m, z, m', rs, rm, hf, k⟩ => by
    obtain ⟨x, h2, hf⟩ := bind_some hf
    refine tOp_of hr rs rm (z := x.1) (m' := x.2) h2 fun v ι1 H1 l1 rm1 ro1 => ?_
    split at hf
    · rename_i e1; rw [e1] at ro1; cases ro1; cases hf
      exact ⟨_, rfl, fun bd => k ι1 H1 l1 rm1 bd⟩
    · cases hf
theorem se_un {op : UnaryOp} {r : V → Hp → VK → Prop} {f : F1} (ho : UnR X (unaryOp op) r) (hr : R1S X.K r f) (ha : SE X a fa) (h0 : PE X (.UnaryOp op a pos) (tUn r (tE X.K fa))) : SE X (.UnaryOp op a pos) (eUn f fa) :=
  pe_imp h0 fun σ H Q ⟨ι, ρ, m, z, m', rs, rm, hf, k⟩ => by
    obtain ⟨x, h1, hf⟩ := bind_some hf
    refine ⟨ι, ρ, m, x.1, x.2, rs, rm, h1, fun v ι1 H1 l1 rm1 ro1 bd1 => ?_⟩
    exact hr ι1 H1 H x.2 x.1 z v m' _ rm1 bd1 ro1 hf fun w ι3 H3 l3 rm3 ro3 bd3 => k w ι3 H3 (l1.tr rm1 l3) rm3 (ro3.from l1 rm1) bd3
/-- a chain a op b op' c -/
@[simp] def eChain (f g : F2) (a b c : E) (ρ : Env) (m : Mem) : Option (Out × Mem) := (a ρ m).bind fun x => (b ρ x.2).bind fun y => (f x.1 y.1 y.2).bind fun z => match z.1 with
  | .v (.bl true) => (c ρ z.2).bind fun w => g y.1 w.1 w.2
  | .v (.bl false) => some (.v (.bl false), z.2)
  | _ => none
theorem tChain_of {K : PySem.W.Frag} {ι : List Addr} {ρ : Env} {σ : St} {H : Hp} {m m' : Mem} {z : Out} {Q : VK} {r r' : R2} {f g : F2} {fc : E} (hr : R2S K r f) (hr' : R2S K r' g) (rs : RS K ι H σ ρ) (rm : RM K ι H m) (hf : eChain f g fa fb fc ρ m = some (z, m'))
    (k : ∀ v ι' H', Le ι H ι' H' → RM K ι' H' m' → RO K H ι' H' z v → Q v H') : tChain r r' (tE K fa) (tE K fb) (tE K fc) σ H Q := by
  obtain ⟨x, h1, hf⟩ := bind_some hf
  obtain ⟨y, h2, hf⟩ := bind_some hf
  obtain ⟨t, h3, hf⟩ := bind_some hf
  obtain ⟨t1, t2⟩ := t
  refine ⟨ι, ρ, m, x.1, x.2, rs, rm, h1, fun v ι1 H1 l1 rm1 ro1 bd1 => ?_⟩
  refine ⟨ι1, ρ, x.2, y.1, y.2, rs.mono l1, rm1, h2, fun u ι2 H2 l2 rm2 ro2 bd2 => ?_⟩
  refine hr ι2 H2 H y.2 x.1 y.1 t1 v u t2 _ rm2 bd2 (ro1.mono l2) (ro2.from l1 rm1) h3 fun w ι3 H3 l3 rm3 ro3 => ?_
  split at hf
  · rename_i e1
    simp only at e1
    subst e1
    cases ro3
    obtain ⟨q, h4, hf⟩ := bind_some hf
    refine ⟨true, rfl, ?_⟩
    rw [if_pos rfl]
    refine ⟨ι3, ρ, t2, q.1, q.2, ((rs.mono l1).mono l2).mono l3, rm3, h4, fun w' ι4 H4 l4 rm4 ro4 bd4 => ?_⟩
    exact hr' ι4 H4 H q.2 y.1 q.1 z u w' m' _ rm4 bd4 (((ro2.mono l3).mono l4).from l1 rm1) (ro4.from (l1.tr rm1 (l2.tr rm2 l3)) rm3) hf fun w5 ι5 H5 l5 rm5 ro5 =>
      k w5 ι5 H5 (l1.tr rm1 (l2.tr rm2 (l3.tr rm3 (l4.tr rm4 l5)))) rm5 (ro5.from (l1.tr rm1 (l2.tr rm2 (l3.tr rm3 l4))) rm4)
  · rename_i e1
    simp only at e1
    subst e1
    cases ro3
    cases hf
    refine ⟨false, rfl, ?_⟩
    rw [if_neg Bool.false_ne_true]
    exact k _ ι3 H3 (l1.tr rm1 (l2.tr rm2 l3)) rm3 (RV.bl false)
  · cases hf
theorem se_chain {r r' : R2} {f g : F2} {fc : E} (h0 : PE X e (tChain r r' (tE X.K fa) (tE X.K fb) (tE X.K fc))) (hr : R2S X.K r f) (hr' : R2S X.K r' g) : SE X e (eChain f g fa fb fc) :=
  pe_imp h0 fun σ H Q ⟨ι, ρ, m, z, m', rs, rm, hf, k⟩ => tChain_of hr hr' rs rm hf k
theorem st_chain {r r' : R2} {f g : F2} {fc : E} (h0 : PT X e (tTest (tChain r r' (tE X.K fa) (tE X.K fb) (tE X.K fc)))) (hr : R2S X.K r f) (hr' : R2S X.K r' g) : ST X e (bOf (eChain f g fa fb fc)) :=
  pt_imp h0 fun σ H Q ⟨ι, ρ, m, z, m', rs, rm, hf, k⟩ => by
    obtain ⟨x, h2, hf⟩ := bind_some hf
    refine tChain_of hr hr' rs rm (z := x.1) (m' := x.2) h2 fun v ι1 H1 l1 rm1 ro1 => ?_
    split at hf
    · rename_i e1; rw [e1] at ro1; cases ro1; cases hf
      exact ⟨_, rfl, fun bd => k ι1 H1 l1 rm1 bd⟩
    · cases hf
theorem se_and {rest : List Expr} (ha : SE X a fa) (hb : SE X (.BoolOp .And (b :: rest) pos) fb) (h0 : PE X (.BoolOp .And (a :: b :: rest) pos) (tAndV (tE X.K fa) (tE X.K fb))) : SE X (.BoolOp .And (a :: b :: rest) pos) (eAnd fa fb) :=
  pe_imp h0 fun σ H Q ⟨ι, ρ, m, z, m', rs, rm, hf, k⟩ => by
    obtain ⟨x, h1, hf⟩ := bind_some hf
    refine ⟨ι, ρ, m, x.1, x.2, rs, rm, h1, fun v ι1 H1 l1 rm1 ro1 bd1 => ?_⟩
    split at hf
    · rename_i e1; rw [e1] at ro1; cases ro1
      refine ⟨true, rfl, ?_⟩
      rw [if_pos rfl]
      exact ⟨ι1, ρ, x.2, z, m', rs.mono l1, rm1, hf, fun w ι3 H3 l3 rm3 ro3 bd3 _ => k w ι3 H3 (l1.tr rm1 l3) rm3 (ro3.from l1 rm1) bd3⟩
    · rename_i e1; rw [e1] at ro1; cases ro1; cases hf
      refine ⟨false, rfl, ?_⟩
      rw [if_neg Bool.false_ne_true]
      exact fun bd => k _ ι1 H1 l1 rm1 (RV.bl false) bd
    · cases hf
theorem se_or {rest : List Expr} (ha : SE X a fa) (hb : SE X (.BoolOp .Or (b :: rest) pos) fb) (h0 : PE X (.BoolOp .Or (a :: b :: rest) pos) (tOrV (tE X.K fa) (tE X.K fb))) : SE X (.BoolOp .Or (a :: b :: rest) pos) (eOr fa fb) :=
  pe_imp h0 fun σ H Q ⟨ι, ρ, m, z, m', rs, rm, hf, k⟩ => by
    obtain ⟨x, h1, hf⟩ := bind_some hf
    refine ⟨ι, ρ, m, x.1, x.2, rs, rm, h1, fun v ι1 H1 l1 rm1 ro1 bd1 => ?_⟩
    split at hf
    · rename_i e1; rw [e1] at ro1; cases ro1
      refine ⟨false, rfl, ?_⟩
      rw [if_neg Bool.false_ne_true]
      exact ⟨ι1, ρ, x.2, z, m', rs.mono l1, rm1, hf, fun w ι3 H3 l3 rm3 ro3 bd3 _ => k w ι3 H3 (l1.tr rm1 l3) rm3 (ro3.from l1 rm1) bd3⟩
    · rename_i e1; rw [e1] at ro1; cases ro1; cases hf
      refine ⟨true, rfl, ?_⟩
      rw [if_pos rfl]
      exact fun bd => k _ ι1 H1 l1 rm1 (RV.bl true) bd
    · cases hf
theorem se_not (h0 : PE X (.UnaryOp .Not a pos) (tNotV (tE X.K fa))) : SE X (.UnaryOp .Not a pos) (eNot fa) :=
  pe_imp h0 fun σ H Q ⟨ι, ρ, m, z, m', rs, rm, hf, k⟩ => by
    obtain ⟨x, h1, hf⟩ := bind_some hf
    refine ⟨ι, ρ, m, x.1, x.2, rs, rm, h1, fun v ι1 H1 l1 rm1 ro1 bd1 => ?_⟩
    split at hf
    · rename_i e1; rw [e1] at ro1; cases ro1; cases hf
      exact ⟨_, rfl, fun bd => k _ ι1 H1 l1 rm1 (RV.bl _) bd⟩
    · cases hf
theorem se_if (h0 : PE X (.IfExp c a b pos) (tIf (tT X.K ca) (tE X.K fa) (tE X.K fb))) : SE X (.IfExp c a b pos) (eIf ca fa fb) :=
  pe_imp h0 fun σ H Q ⟨ι, ρ, m, z, m', rs, rm, hf, k⟩ => by
    obtain ⟨x, h1, hf⟩ := bind_some hf
    refine ⟨ι, ρ, m, x.1, x.2, rs, rm, h1, fun ι1 H1 l1 rm1 bd1 => ?_⟩
    split at hf
    · rename_i e1; rw [e1, if_pos rfl]
      exact ⟨ι1, ρ, x.2, z, m', rs.mono l1, rm1, hf, fun w ι3 H3 l3 rm3 ro3 bd3 _ => k w ι3 H3 (l1.tr rm1 l3) rm3 (ro3.from l1 rm1) bd3⟩
    · rename_i e1; rw [e1, if_neg Bool.false_ne_true]
      exact ⟨ι1, ρ, x.2, z, m', rs.mono l1, rm1, hf, fun w ι3 H3 l3 rm3 ro3 bd3 _ => k w ι3 H3 (l1.tr rm1 l3) rm3 (ro3.from l1 rm1) bd3⟩
/-! tests -/
theorem st_of (h0 : PT X e (tB (tE X.K fa))) : ST X e (bOf fa) := pt_imp h0 fun σ H Q ⟨ι, ρ, m, z, m', rs, rm, hf, k⟩ => by
  obtain ⟨x, h1, hf⟩ := bind_some hf
  refine ⟨ι, ρ, m, x.1, x.2, rs, rm, h1, fun v ι1 H1 l1 rm1 ro1 bd1 => ?_⟩
  split at hf
  · rename_i e1; rw [e1] at ro1; cases ro1; cases hf
    exact ⟨_, rfl, fun bd => k ι1 H1 l1 rm1 bd⟩
  · cases hf
theorem sw_and {rest : List Expr} (h0 : PW X (.BoolOp .And (a :: b :: rest) pos) (tAnd (tT X.K ca) (tT X.K cb))) : SW X (.BoolOp .And (a :: b :: rest) pos) (bAnd ca cb) := pw_imp h0 fun σ H Q ⟨ι, ρ, m, z, m', rs, rm, hf, k⟩ => by
  obtain ⟨x, h1, hf⟩ := bind_some hf
  refine ⟨ι, ρ, m, x.1, x.2, rs, rm, h1, fun ι1 H1 l1 rm1 bd1 => ?_⟩
  split at hf
  · rename_i e1; rw [e1, if_pos rfl]
    exact ⟨ι1, ρ, x.2, z, m', rs.mono l1, rm1, hf, fun ι3 H3 l3 rm3 bd3 _ => k ι3 H3 (l1.tr rm1 l3) rm3 bd3⟩
  · rename_i e1; cases hf; rw [e1, if_neg Bool.false_ne_true]
    exact fun bd => k ι1 H1 l1 rm1 bd
theorem sw_or {rest : List Expr} (h0 : PW X (.BoolOp .Or (a :: b :: rest) pos) (tOr (tT X.K ca) (tT X.K cb))) : SW X (.BoolOp .Or (a :: b :: rest) pos) (bOr ca cb) := pw_imp h0 fun σ H Q ⟨ι, ρ, m, z, m', rs, rm, hf, k⟩ => by
  obtain ⟨x, h1, hf⟩ := bind_some hf
  refine ⟨ι, ρ, m, x.1, x.2, rs, rm, h1, fun ι1 H1 l1 rm1 bd1 => ?_⟩
  split at hf
  · rename_i e1; rw [e1, if_neg Bool.false_ne_true]
    exact ⟨ι1, ρ, x.2, z, m', rs.mono l1, rm1, hf, fun ι3 H3 l3 rm3 bd3 _ => k ι3 H3 (l1.tr rm1 l3) rm3 bd3⟩
  · rename_i e1; cases hf; rw [e1, if_pos rfl]
    exact fun bd => k ι1 H1 l1 rm1 bd
theorem st_not (h0 : PT X e (tNot (tT X.K ca))) : ST X e (bNot ca) := pt_imp h0 fun σ H Q ⟨ι, ρ, m, z, m', rs, rm, hf, k⟩ => by
  obtain ⟨x, h1, hf⟩ := bind_some hf
  cases hf
  exact ⟨ι, ρ, m, x.1, x.2, rs, rm, h1, fun ι1 H1 l1 rm1 bd1 bd => k ι1 H1 l1 rm1 bd⟩
theorem sts_nil : PTs X [] (tT X.K bYes) := ⟨fun pins s σ H Q I h => by
  obtain ⟨ι, ρ, m, z, m', rs, rm, hf, k⟩ := h
  cases hf
  exact pts_nil.run pins s σ H Q I (k ι H (Le.refl _ _) rm (bnd_of I))⟩
theorem sts_one (h : ST X e ca) : PTs X [e] (tT X.K ca) := pts_one h
/-! arguments, displays, calls -/
theorem sa_nil : SA X [] aNil := pa_imp pa_nil fun σ H Q ⟨ι, ρ, m, z, m', rs, rm, hf, k⟩ => by
  cases hf
  exact fun bd => k [] ι H (Le.refl _ _) rm .nil bd
theorem sa_cons {es : List Expr} {fr : A} (h0 : PA X (e :: es) (tCons (tE X.K fa) (tA X.K fr))) : SA X (e :: es) (aCons fa fr) := pa_imp h0 fun σ H Q ⟨ι, ρ, m, z, m', rs, rm, hf, k⟩ => by
  obtain ⟨x, h1, hf⟩ := bind_some hf
  obtain ⟨y, h2, hf⟩ := bind_some hf
  cases hf
  refine ⟨ι, ρ, m, x.1, x.2, rs, rm, h1, fun v ι1 H1 l1 rm1 ro1 bd1 => ?_⟩
  obtain ⟨ι1', l1', rm1', rv1, rs1, _, _⟩ := ro1.val l1 rm1 (rs.mono l1)
  refine ⟨ι1', ρ, _, y.1, y.2, rs1, rm1', h2, fun vs ι2 H2 l2 rm2 rvs bd2 bd => ?_⟩
  exact k (v :: vs) ι2 H2 (l1'.tr rm1' l2) rm2 (.cons (rv1.mono l2) rvs) bd2
theorem se_tup {es : List Expr} {fr : A} {k1 : Nat} (h : SA X es fr) : SE X (.Tuple es k1 pos) (eTup fr) := pe_imp (pe_tupN h) fun σ H Q ⟨ι, ρ, m, z, m', rs, rm, hf, k⟩ => by
  obtain ⟨x, h1, hf⟩ := bind_some hf
  split at hf
  · rename_i hl
    cases hf
    refine ⟨ι, ρ, m, x.1, x.2, rs, rm, h1, fun vs ι1 H1 l1 rm1 rvs bd1 => ⟨by rw [← rvs.length]; exact hl, fun p o hp ho bd => ?_⟩⟩
    have l2 : Le ι1 H1 ι1 (upd H1 p (.frz o (.tup vs))) := ⟨⟨[], by simp, by simp⟩, fun a o h _ => by rw [upd_ne (ne_of_none h hp)]; exact h⟩
    refine k (.ref p) ι1 _ (l1.tr rm1 l2) ⟨rm1.nd, rm1.len, fun n b e => let ⟨a, e1, rb⟩ := rm1.ob n b e; ⟨a, e1, rb.mono l2 (upd_ne fun z => rb.isat (by rw [z]; exact hp))⟩⟩ (.tup (.inl ⟨o, upd_same, ho⟩) (rvs.mono l2)) bd
  · cases hf
theorem se_lst {es : List Expr} {fr : A} (h : SA X es fr) : SE X (.List es pos) (eLst fr) := pe_imp (pe_lst h) fun σ H Q ⟨ι, ρ, m, z, m', rs, rm, hf, k⟩ => by
  obtain ⟨x, h1, hf⟩ := bind_some hf
  split at hf
  · rename_i hl
    cases hf
    refine ⟨ι, ρ, m, x.1, x.2, rs, rm, h1, fun vs ι1 H1 l1 rm1 rvs bd1 => ⟨by rw [← rvs.length]; exact hl, fun p hp bd => ?_⟩⟩
    have l2 : Le ι1 H1 ι1 (upd H1 p (.lst vs)) := ⟨⟨[], by simp, by simp⟩, fun a o h _ => by rw [upd_ne (ne_of_none h hp)]; exact h⟩
    refine k (.ref p) ι1 _ (l1.tr rm1 l2) ⟨rm1.nd, rm1.len, fun n b e => let ⟨a, e1, rb⟩ := rm1.ob n b e; ⟨a, e1, rb.mono l2 (upd_ne fun z => rb.isat (by rw [z]; exact hp))⟩⟩ ⟨p, rfl, l1.back rm1 hp, fun hi => rm1.there p hi hp, vs, upd_same, rvs.mono l2⟩ bd
  · cases hf
end
/-! ### a def's promise -/
def spF (K : PySem.W.Frag) (n : Nat) (F : Fn) : Sp := fun vs H Q _ => ∃ ι ds m r m', ds.length = n ∧ RVs K ι H ds vs ∧ RM K ι H m ∧ F ds m = some (r, m') ∧ ∀ v ι' H', Le ι H ι' H' → RM K ι' H' m' → RO K H ι' H' r v → Q v H'
section
variable {X : Cx} {e : Expr} {es : List Expr} {pos p : Pos} {fr : A} {x : Str} {k n : Nat} {f : Addr} {fd : FuncData} {ps : List Str} {F : Fn}
theorem tCall_of {K : PySem.W.Frag} {ι : List Addr} {ρ : Env} {σ : St} {H : Hp} {m m' : Mem} {z : Out} {Q : VK} (hF : ∀ ds m r, F ds m = some r → ds.length = n) (rs : RS K ι H σ ρ) (rm : RM K ι H m) (hf : eCall F fr ρ m = some (z, m'))
    (k : ∀ v ι' H', Le ι H ι' H' → RM K ι' H' m' → RO K H ι' H' z v → Q v H') : tCall (spF K n F) [] E0 (tA K fr) σ H Q := by
  obtain ⟨x, h1, hf⟩ := bind_some hf
  refine ⟨ι, ρ, m, x.1, x.2, rs, rm, h1, fun vs ι1 H1 l1 rm1 rvs bd1 => ?_⟩
  show spF K n F (vs ++ []) H1 Q E0
  rw [List.append_nil]
  exact ⟨ι1, x.1, x.2, z, m', hF _ _ _ hf, rvs, rm1, hf, fun v ι2 H2 l2 rm2 ro2 => k v ι2 H2 (l1.tr rm1 l2) rm2 (ro2.from l1 rm1)⟩
theorem se_call (h0 : PE X e (tCall (spF X.K n F) [] E0 (tA X.K fr))) (hF : ∀ ds m r, F ds m = some r → ds.length = n) : SE X e (eCall F fr) :=
  pe_imp h0 fun σ H Q ⟨ι, ρ, m, z, m', rs, rm, hf, k⟩ => tCall_of hF rs rm hf k
end
end Q
namespace Q
open PySem L2

/-! ### targets -/
inductive Tg where
  | nm (i : Nat) | tp (is : List Nat)
@[simp] def setAll : List Nat → List D → Env → Option Env
  | [], [], ρ => some ρ
  | i :: is, d :: ds, ρ => setAll is ds (ρ.set i (some d))
  | _, _, _ => none
@[simp] def Tg.put : Tg → D → Env → Option Env
  | .nm i, d, ρ => some (ρ.set i (some d))
  | .tp is, .tup ds, ρ => setAll is ds ρ
  | .tp is, .par ds, ρ => setAll is ds ρ
  | _, _, _ => none
/-- a target that is stored to, any way: data, environment, memory -/
abbrev G := D → Env → Mem → Option (Env × Mem)
def tG (K : PySem.W.Frag) (g : G) : TG := fun v σ H Q => ∃ ι ρ m d ρ' m', RS K ι H σ ρ ∧ RM K ι H m ∧ RV K ι H d v ∧ g d ρ m = some (ρ', m') ∧ ∀ σ' ι' H', Le ι H ι' H' → RS K ι' H' σ' ρ' → RM K ι' H' m' → Q σ' H'
abbrev SG (X : Cx) (e : Expr) (g : G) : Prop := PG X e (tG X.K g)
@[simp] def gT (t : Tg) (d : D) (ρ : Env) (m : Mem) : Option (Env × Mem) := (t.put d ρ).map fun ρ' => (ρ', m)
theorem RS.put {K : PySem.W.Frag} {ι : List Addr} {H : Hp} {σ : St} {ρ : Env} {d : D} {v : V} {i : Nat} (h : RS K ι H σ ρ) (r : RV K ι H d v) : RS K ι H (σ.set i (some v)) (ρ.set i (some d)) := by
  refine ⟨by simp [h.1], fun j d' e => ?_⟩
  by_cases hj : i = j
  · subst hj
    by_cases hl : i < ρ.length
    · rw [List.getElem?_set_self hl] at e
      cases e
      exact ⟨v, by rw [List.getElem?_set_self (by rw [h.1]; exact hl)], r⟩
    · rw [List.getElem?_eq_none (by simpa using hl)] at e; cases e
  · rw [List.getElem?_set_ne hj] at e ⊢
    exact h.2 j d' e
section
variable {X : Cx} {e : Expr}
theorem sg_name {i : Nat} (h : PG X e (gName i)) : SG X e (gT (.nm i)) := pg_imp h fun v σ H Q ⟨ι, ρ, m, d, ρ', m', rs, rm, rv, hg, k⟩ => by
  cases hg
  exact k _ ι H (Le.refl _ _) (rs.put rv) rm
/-- several names -/
def gNames : List Nat → TGs
  | [] => gNil
  | i :: is => gCons (gName i) (gNames is)
theorem gNames_of {K : PySem.W.Frag} {ι : List Addr} {H : Hp} {Q : St → Hp → Prop} : ∀ {is : List Nat} {ds : List D} {vs : List V} {σ : St} {ρ ρ' : Env}, RS K ι H σ ρ → RVs K ι H ds vs → setAll is ds ρ = some ρ' → (∀ σ', RS K ι H σ' ρ' → Q σ' H) → gNames is vs σ H Q
  | [], [], _, σ, ρ, _, rs, .nil, e, k => by cases e; exact ⟨rfl, k σ rs⟩
  | i :: is, d :: ds, _, σ, ρ, _, rs, .cons r t, e, k => ⟨_, _, rfl, gNames_of (is := is) (rs.put r) t e k⟩
  | [], _ :: _, _, _, _, _, _, _, e, _ => by cases e
  | _ :: _, [], _, _, _, _, _, _, e, _ => by cases e
theorem setAll_len : ∀ {is : List Nat} {ds : List D} {ρ ρ' : Env}, setAll is ds ρ = some ρ' → ds.length = is.length
  | [], [], _, _, _ => rfl
  | i :: is, d :: ds, _, _, e => by simp [setAll_len (is := is) (ds := ds) e]
  | [], _ :: _, _, _, e => by cases e
  | _ :: _, [], _, _, e => by cases e
theorem sg_tup {is : List Nat} {n : Nat} (h : PG X e (gTup X.K n (gNames is))) (hn : is.length = n) : SG X e (gT (.tp is)) := pg_imp h fun v σ H Q ⟨ι, ρ, m, d, ρ', m', rs, rm, rv, hg, k⟩ => by
  unfold gT Tg.put at hg
  cases rv with
  | tup hs rvs =>
    obtain ⟨ρ1, e1, e2⟩ := Option.map_eq_some_iff.mp hg
    cases e2
    exact ⟨_, _, rfl, hs.sq, by rw [← rvs.length, setAll_len e1, hn], gNames_of rs rvs e1 fun σ' rs' => k σ' ι H (Le.refl _ _) rs' rm⟩
  | par hs rvs =>
    obtain ⟨ρ1, e1, e2⟩ := Option.map_eq_some_iff.mp hg
    cases e2
    exact ⟨_, _, rfl, .inl (.inl hs), by rw [← rvs.length, setAll_len e1, hn], gNames_of rs rvs e1 fun σ' rs' => k σ' ι H (Le.refl _ _) rs' rm⟩
  | _ => cases hg
end

/-! ### statements -/
@[simp] def sNil (ρ : Env) (m : Mem) : Option R := some (.nx ρ m)
@[simp] def sSeq (a b : S) (ρ : Env) (m : Mem) : Option R := (a ρ m).bind fun r => match r with | .nx ρ' m' => b ρ' m' | r => some r
@[simp] def sPut (e : E) (g : G) (ρ : Env) (m : Mem) : Option R := (e ρ m).bind fun x => (g (val x.1 x.2).1 ρ (val x.1 x.2).2).bind fun y => some (.nx y.1 y.2)
@[simp] def sSet (i : Nat) (e : E) (ρ : Env) (m : Mem) : Option R := (e ρ m).bind fun x => some (.nx (ρ.set i (some (val x.1 x.2).1)) (val x.1 x.2).2)
@[simp] def sPar (is : List Nat) (a : A) (ρ : Env) (m : Mem) : Option R := (a ρ m).bind fun x => (setAll is x.1 ρ).bind fun ρ' => some (.nx ρ' x.2)
@[simp] def sDo (e : E) (ρ : Env) (m : Mem) : Option R := (e ρ m).bind fun x => some (.nx ρ x.2)
@[simp] def sRet (e : E) (ρ : Env) (m : Mem) : Option R := (e ρ m).bind fun x => some (.rt x.1 x.2)
@[simp] def sRetN (_ : Env) (m : Mem) : Option R := some (.rt (.v .non) m)
@[simp] def sIf (c : B) (a b : S) (ρ : Env) (m : Mem) : Option R := (c ρ m).bind fun x => match x.1 with | true => a ρ x.2 | false => b ρ x.2
@[simp] def sBrk (ρ : Env) (m : Mem) : Option R := some (.bk ρ m)
@[simp] def sCnt (ρ : Env) (m : Mem) : Option R := some (.ct ρ m)
@[simp] def sAug (i : Nat) (f : F2) (e : E) (ρ : Env) (m : Mem) : Option R := match ρ[i]? with
  | some (some d) => (e ρ m).bind fun x => (f (.v d) x.1 x.2).bind fun z => some (.nx (ρ.set i (some (val z.1 z.2).1)) (val z.1 z.2).2)
  | _ => none
/-- a wish behind a loop's turn -/
def whL (c : B) (body : S) : Nat → Env → Mem → Option R
  | 0, _, _ => none
  | n + 1, ρ, m => (c ρ m).bind fun x => match x.1 with
    | false => some (.nx ρ x.2)
    | true => (body ρ x.2).bind fun r => match r with
      | .nx ρ' m' => whL c body n ρ' m'
      | .ct ρ' m' => whL c body n ρ' m'
      | .bk ρ' m' => some (.nx ρ' m')
      | .rt r m' => some (.rt r m')
def fuel : Nat := 1000000000
def sWhile (c : B) (body : S) : S := fun ρ m => whL c body fuel ρ m

/-- what is walked: the items; lists that stand in the memory meanwhile -/
structure Src where
  items : List D
  live : List (Nat × Ob) := []
def chk (lv : List (Nat × Ob)) (m : Mem) : Prop := ∀ p ∈ lv, m[p.1]? = some p.2
abbrev I := Env → Mem → Option (Src × Mem)
open Classical in
noncomputable def forL (g : G) (body : S) (lv : List (Nat × Ob)) : List D → Env → Mem → Option R
  | [], ρ, m => if chk lv m then some (.nx ρ m) else none
  | x :: xs, ρ, m => if chk lv m then (g x ρ m).bind fun y => (body y.1 y.2).bind fun r => match r with
      | .nx ρ' m' => forL g body lv xs ρ' m'
      | .ct ρ' m' => forL g body lv xs ρ' m'
      | .bk ρ' m' => some (.nx ρ' m')
      | .rt r m' => some (.rt r m')
    else none
noncomputable def sFor (it : I) (g : G) (body : S) : S := fun ρ m => (it ρ m).bind fun s => forL g body s.1.live s.1.items ρ s.2
/-- the layer's walk J gives the items, from (ι, H) on, as long as the lists stand -/
def Walks (K : PySem.W.Frag) (J : It) (s : Src) (ι : List Addr) (H : Hp) : Prop := ∀ ι2 H2 m2 (i : Nat), Le ι H ι2 H2 → RM K ι2 H2 m2 → chk s.live m2 →
  (s.items.length ≤ i → J.stop i H2) ∧ ∀ d, s.items[i]? = some d → J.go i H2 ∧ ∀ x H3, J.yld i H2 x H3 → Le ι2 H2 ι2 H3 ∧ RM K ι2 H3 m2 ∧ RV K ι2 H3 d x
def tI (K : PySem.W.Frag) (it : I) : TI := fun σ H R => ∃ ι ρ m s m', RS K ι H σ ρ ∧ RM K ι H m ∧ it ρ m = some (s, m') ∧ ∀ J ι' H', Le ι H ι' H' → RM K ι' H' m' → Walks K J s ι' H' → Bnd K H' → s.items.length ≤ sizeLine → R J H'
abbrev SI (X : Cx) (tg e : Expr) (it : I) : Prop := PI X tg e (tI X.K it)
section
variable {X : Cx} {e a b : Expr} {pos p : Pos} {fa : E} {ca : B} {st : Stmt} {sts : List Stmt} {s1 s2 : S} {g : G}
theorem ss_nil : SSs X [] sNil := pss_imp pss_nil fun D σ H ⟨ι, ρ, m, r, rs, rm, hf, k⟩ => by
  cases hf
  exact k σ ι H (Le.refl _ _) rs rm
theorem ss_one (h : SS X st s1) : SSs X [st] s1 := pss_one h
theorem ss_cons (h1 : SS X st s1) (h2 : SSs X sts s2) : SSs X (st :: sts) (sSeq s1 s2) := pss_imp (pss_cons h1 h2) fun D σ H ⟨ι, ρ, m, r, rs, rm, hf, k⟩ => by
  obtain ⟨x, h3, hf⟩ := bind_some hf
  refine ⟨ι, ρ, m, x, rs, rm, h3, ?_⟩
  cases x with
  | nx ρ' m' => exact fun σ1 ι1 H1 l1 rs1 rm1 => ⟨ι1, ρ', m', r, rs1, rm1, hf, k.from l1 rm1⟩
  | rt v m' => cases hf; exact k
  | bk ρ' m' => cases hf; exact k
  | ct ρ' m' => cases hf; exact k
theorem ss_pass : SS X (.Pass pos) sNil := ps_imp ps_pass fun D σ H ⟨ι, ρ, m, r, rs, rm, hf, k⟩ => by
  cases hf
  exact k σ ι H (Le.refl _ _) rs rm
theorem ss_do (h : SE X e fa) (h0 : PS X (.Expr e pos) (tDrop (tE X.K fa))) : SS X (.Expr e pos) (sDo fa) := ps_imp h0 fun D σ H ⟨ι, ρ, m, r, rs, rm, hf, k⟩ => by
  obtain ⟨x, h3, hf⟩ := bind_some hf
  cases hf
  exact ⟨ι, ρ, m, x.1, x.2, rs, rm, h3, fun v ι1 H1 l1 rm1 ro1 bd1 => k σ ι1 H1 l1 (rs.mono l1) rm1⟩
theorem ss_ret (h : SE X e fa) : SS X (.Return (some e) pos) (sRet fa) := ps_imp (ps_ret h) fun D σ H ⟨ι, ρ, m, r, rs, rm, hf, k⟩ => by
  obtain ⟨x, h3, hf⟩ := bind_some hf
  cases hf
  exact ⟨ι, ρ, m, x.1, x.2, rs, rm, h3, fun v ι1 H1 l1 rm1 ro1 bd1 => k v ι1 H1 l1 rm1 ro1⟩
theorem ss_set {i : Nat} (h0 : PS X st (tAsg (tE X.K fa) (gName i))) : SS X st (sSet i fa) := ps_imp h0 fun D σ H ⟨ι, ρ, m, r, rs, rm, hf, k⟩ => by
  obtain ⟨x, h3, hf⟩ := bind_some hf
  cases hf
  refine ⟨ι, ρ, m, x.1, x.2, rs, rm, h3, fun v ι1 H1 l1 rm1 ro1 bd1 => ?_⟩
  obtain ⟨ι2, l2, rm2, rv, rs2, _, _⟩ := ro1.val l1 rm1 (rs.mono l1)
  exact k _ ι2 H1 l2 (rs2.put rv) rm2
theorem ss_put (h0 : PS X st (tAsg (tE X.K fa) (tG X.K g))) : SS X st (sPut fa g) := ps_imp h0 fun D σ H ⟨ι, ρ, m, r, rs, rm, hf, k⟩ => by
  obtain ⟨x, h3, hf⟩ := bind_some hf
  obtain ⟨y, h4, hf⟩ := bind_some hf
  cases hf
  refine ⟨ι, ρ, m, x.1, x.2, rs, rm, h3, fun v ι1 H1 l1 rm1 ro1 bd1 => ?_⟩
  obtain ⟨ι2, l2, rm2, rv, rs2, _, _⟩ := ro1.val l1 rm1 (rs.mono l1)
  exact ⟨ι2, ρ, _, _, y.1, y.2, rs2, rm2, rv, h4, fun σ' ι3 H3 l3 rs3 rm3 => k σ' ι3 H3 (l2.tr rm2 l3) rs3 rm3⟩
theorem ss_par {i j : Nat} {fr : A} (h0 : PS X st (tPar i j (tA X.K fr))) : SS X st (sPar [i, j] fr) := ps_imp h0 fun D σ H ⟨ι, ρ, m, r, rs, rm, hf, k⟩ => by
  obtain ⟨x, h3, hf⟩ := bind_some hf
  obtain ⟨ρ', h4, hf⟩ := bind_some hf
  cases hf
  refine ⟨ι, ρ, m, x.1, x.2, rs, rm, h3, fun vs ι1 H1 l1 rm1 rvs bd1 => ?_⟩
  match h5 : x.1, rvs, h4 with
  | [d1, d2], .cons r1 (.cons r2 .nil), h4 =>
    cases h4
    exact ⟨_, _, rfl, k _ ι1 H1 l1 (((rs.mono l1).put r1).put r2) rm1⟩
theorem ss_par3 {i j l : Nat} {fr : A} (h0 : PS X st (tPar3 i j l (tA X.K fr))) : SS X st (sPar [i, j, l] fr) := ps_imp h0 fun D σ H ⟨ι, ρ, m, r, rs, rm, hf, k⟩ => by
  obtain ⟨x, h3, hf⟩ := bind_some hf
  obtain ⟨ρ', h4, hf⟩ := bind_some hf
  cases hf
  refine ⟨ι, ρ, m, x.1, x.2, rs, rm, h3, fun vs ι1 H1 l1 rm1 rvs bd1 => ?_⟩
  match h5 : x.1, rvs, h4 with
  | [d1, d2, d3], .cons r1 (.cons r2 (.cons r3 .nil)), h4 =>
    cases h4
    exact ⟨_, _, _, rfl, k _ ι1 H1 l1 ((((rs.mono l1).put r1).put r2).put r3) rm1⟩
theorem ss_if {c : Expr} {pa pb : List Stmt} (hc : ST X c ca) (h1 : SSs X pa s1) (h2 : SSs X pb s2) : SS X (.If c pa pb pos) (sIf ca s1 s2) := ps_imp (ps_if hc h1 h2) fun D σ H ⟨ι, ρ, m, r, rs, rm, hf, k⟩ => by
  obtain ⟨x, h3, hf⟩ := bind_some hf
  refine ⟨ι, ρ, m, x.1, x.2, rs, rm, h3, fun ι1 H1 l1 rm1 bd1 => ?_⟩
  split at hf
  · rename_i e1; rw [e1, if_pos rfl]
    exact ⟨ι1, ρ, x.2, r, rs.mono l1, rm1, hf, k.from l1 rm1⟩
  · rename_i e1; rw [e1, if_neg Bool.false_ne_true]
    exact ⟨ι1, ρ, x.2, r, rs.mono l1, rm1, hf, k.from l1 rm1⟩
theorem ss_brk : SS X (.Break pos) sBrk := ps_imp ps_break fun D σ H ⟨ι, ρ, m, r, rs, rm, hf, k⟩ => by
  cases hf
  exact k σ ι H (Le.refl _ _) rs rm
theorem ss_cnt : SS X (.Continue pos) sCnt := ps_imp ps_continue fun D σ H ⟨ι, ρ, m, r, rs, rm, hf, k⟩ => by
  cases hf
  exact k σ ι H (Le.refl _ _) rs rm
theorem ss_aug {i : Nat} {ti : TIp} {f : F2} (h0 : PS X st (tAug i (tE X.K fa) ti)) (hr : R2S X.K ti f) : SS X st (sAug i f fa) := ps_imp h0 fun D σ H ⟨ι, ρ, m, r, rs, rm, hf, k⟩ => by
  unfold sAug at hf
  split at hf
  · rename_i d hd
    obtain ⟨x, h3, hf⟩ := bind_some hf
    obtain ⟨z, h4, hf⟩ := bind_some hf
    cases hf
    obtain ⟨v, e1, e2⟩ := rs.2 i d hd
    refine ⟨v, e1, ι, ρ, m, x.1, x.2, rs, rm, h3, fun u ι1 H1 l1 rm1 ro1 bd1 => ?_⟩
    refine hr ι1 H1 H x.2 (.v d) x.1 z.1 v u z.2 _ rm1 bd1 (e2.mono l1) ro1 h4 fun w ι2 H2 l2 rm2 ro2 => ?_
    obtain ⟨ι3, l3, rm3, rv, rs3, _, _⟩ := (ro2.from l1 rm1).val (l1.tr rm1 l2) rm2 ((rs.mono l1).mono l2)
    exact k _ ι3 H2 l3 (rs3.put rv) rm3
  · cases hf
theorem ss_while (h0 : PS X st (tWhile (tT X.K ca) (tS X.K s1))) : SS X st (sWhile ca s1) := ps_imp h0 fun D σ H ⟨ι, ρ, m, r, rs, rm, hf, k⟩ => by
  refine ⟨fun n σ1 H1 => ∃ ι1 ρ1 m1, Le ι H ι1 H1 ∧ RS X.K ι1 H1 σ1 ρ1 ∧ RM X.K ι1 H1 m1 ∧ whL ca s1 n ρ1 m1 = some r, ⟨fuel, ι, ρ, m, Le.refl _ _, rs, rm, hf⟩, ?_⟩
  rintro n σ1 H1 ⟨ι1, ρ1, m1, l1, rs1, rm1, hw⟩
  cases n with
  | zero => cases hw
  | succ n =>
    obtain ⟨x, h3, hw⟩ := bind_some hw
    refine ⟨ι1, ρ1, m1, x.1, x.2, rs1, rm1, h3, fun ι2 H2 l2 rm2 bd2 => ?_⟩
    have l12 := l1.tr rm1 l2
    split at hw
    · rename_i e1; rw [e1]
      cases hw
      exact iteF (k σ1 ι2 H2 l12 (rs1.mono l2) rm2)
    · rename_i e1; rw [e1]
      refine iteT ?_
      obtain ⟨y, h4, hw⟩ := bind_some hw
      refine ⟨fun σ' H' => ∃ ι' ρ' m', Le ι H ι' H' ∧ RS X.K ι' H' σ' ρ' ∧ RM X.K ι' H' m' ∧ whL ca s1 n ρ' m' = some r, fun σ' H' h => ⟨n, Nat.lt_succ_self n, h⟩, ι2, ρ1, x.2, y, rs1.mono l2, rm2, h4, ?_⟩
      cases y with
      | nx ρ' m' => exact fun σ' ι' H' l' rs' rm' => ⟨ι', ρ', m', l12.tr rm2 l', rs', rm', hw⟩
      | ct ρ' m' => exact fun σ' ι' H' l' rs' rm' => ⟨ι', ρ', m', l12.tr rm2 l', rs', rm', hw⟩
      | bk ρ' m' => cases hw; exact fun σ' ι' H' l' rs' rm' => k σ' ι' H' (l12.tr rm2 l') rs' rm'
      | rt r' m' => cases hw; exact fun v ι' H' l' rm' ro' => k v ι' H' (l12.tr rm2 l') rm' (ro'.from l12 rm2)
theorem ss_for {it : I} (h0 : PS X st (tFor (tI X.K it) (tG X.K g) (tS X.K s1))) : SS X st (sFor it g s1) := ps_imp h0 fun D σ H ⟨ι, ρ, m, r, rs, rm, hf, k⟩ => by
  obtain ⟨s, h3, hf⟩ := bind_some hf
  refine ⟨ι, ρ, m, s.1, s.2, rs, rm, h3, fun J ι0 H0 l0 rm0 wk bd hsz => ?_⟩
  refine ⟨fun i n σ1 H1 => ∃ ι1 ρ1 m1, n = s.1.items.length - i ∧ Le ι0 H0 ι1 H1 ∧ RS X.K ι1 H1 σ1 ρ1 ∧ RM X.K ι1 H1 m1 ∧ forL g s1 s.1.live (s.1.items.drop i) ρ1 m1 = some r, ⟨s.1.items.length, ι0, ρ, s.2, by simp, Le.refl _ _, rs.mono l0, rm0, by simpa using hf⟩, ?_⟩
  rintro i n σ1 H1 ⟨ι1, ρ1, m1, en, l1, rs1, rm1, hw⟩
  by_cases hi : i < s.1.items.length
  · rw [List.drop_eq_getElem_cons hi] at hw
    unfold forL at hw
    split at hw
    · rename_i hc
      obtain ⟨y, h4, hw⟩ := bind_some hw
      obtain ⟨z, h5, hw⟩ := bind_some hw
      obtain ⟨_, w2⟩ := wk ι1 H1 m1 i l1 rm1 hc
      obtain ⟨go, w3⟩ := w2 _ (List.getElem?_eq_getElem hi)
      refine .inr ⟨go, fun σ' H' => ∃ ι' ρ' m', Le ι0 H0 ι' H' ∧ RS X.K ι' H' σ' ρ' ∧ RM X.K ι' H' m' ∧ forL g s1 s.1.live (s.1.items.drop (i + 1)) ρ' m' = some r, fun σ' H' ⟨ι', ρ', m', a, b, c, d⟩ => ⟨s.1.items.length - (i + 1), by omega, ι', ρ', m', rfl, a, b, c, d⟩, fun x H3 hy => ?_⟩
      obtain ⟨l3, rm3, rv3⟩ := w3 x H3 hy
      refine ⟨ι1, ρ1, m1, _, y.1, y.2, rs1.mono l3, rm3, rv3, h4, fun σ' ι4 H4 l4 rs4 rm4 => ?_⟩
      have l14 : Le ι0 H0 ι4 H4 := l1.tr rm1 (l3.tr rm3 l4)
      refine ⟨ι4, y.1, y.2, z, rs4, rm4, h5, ?_⟩
      cases z with
      | nx ρ' m' => exact fun σ' ι' H' l' rs' rm' => ⟨ι', ρ', m', l14.tr rm4 l', rs', rm', hw⟩
      | ct ρ' m' => exact fun σ' ι' H' l' rs' rm' => ⟨ι', ρ', m', l14.tr rm4 l', rs', rm', hw⟩
      | bk ρ' m' => cases hw; exact fun σ' ι' H' l' rs' rm' => k σ' ι' H' (l0.tr rm0 (l14.tr rm4 l')) rs' rm'
      | rt r' m' => cases hw; exact fun v ι' H' l' rm' ro' => k v ι' H' (l0.tr rm0 (l14.tr rm4 l')) rm' (ro'.from (l0.tr rm0 l14) rm4)
    · cases hw
  · rw [List.drop_eq_nil_of_le (by omega)] at hw
    unfold forL at hw
    split at hw
    · rename_i hc
      cases hw
      obtain ⟨w1, _⟩ := wk ι1 H1 m1 i l1 rm1 hc
      exact .inl ⟨w1 (by omega), k σ1 ι1 H1 (l0.tr rm0 l1) rs1 rm1⟩
    · cases hw
end
end Q
namespace Q
open PySem L2

/-! ### comprehensions -/
def wipeE (ρ : Env) : List Nat → Env
  | [] => ρ
  | v :: vs => (wipeE ρ vs).set v none
theorem RS.wipe {K : PySem.W.Frag} {ι : List Addr} {H : Hp} {σ : St} {ρ : Env} (h : RS K ι H σ ρ) : ∀ vs : List Nat, RS K ι H (wipe σ vs) (wipeE ρ vs)
  | [] => h
  | v :: vs => by
    have ih := RS.wipe h vs
    refine ⟨by simp [L2.wipe, wipeE, ih.1], fun j d e => ?_⟩
    unfold wipeE at e
    unfold L2.wipe
    by_cases hj : v = j
    · subst hj
      by_cases hl : v < (wipeE ρ vs).length
      · rw [List.getElem?_set_self hl] at e; cases e
      · rw [List.getElem?_eq_none (by simpa using hl)] at e; cases e
    · rw [List.getElem?_set_ne hj] at e ⊢
      exact ih.2 j d e
def Tg.ixs : Tg → List Nat
  | .nm i => [i]
  | .tp is => is
theorem wipe_comm (σ : St) (i : Nat) (x : Option V) : ∀ vs : List Nat, i ∈ vs → L2.wipe (σ.set i x) vs = L2.wipe σ vs
  | [], h => by cases h
  | v :: vs, h => by
    unfold L2.wipe
    by_cases hv : i ∈ vs
    · rw [wipe_comm σ i x vs hv]
    · have e : i = v := by
        rcases List.mem_cons.mp h with h | h
        · exact h
        · exact absurd h hv
      subst e
      have q : ∀ (us : List Nat), i ∉ us → L2.wipe (σ.set i x) us = (L2.wipe σ us).set i x := by
        intro us
        induction us with
        | nil => intro _; rfl
        | cons u us ih =>
          intro hu
          unfold L2.wipe
          rw [ih fun z => hu (List.mem_cons_of_mem _ z), List.set_comm]
          intro z; subst z; exact hu List.mem_cons_self
      rw [q vs hv, List.set_set]
theorem wipe_wipe (σ : St) : ∀ vs : List Nat, L2.wipe (L2.wipe σ vs) vs = L2.wipe σ vs := fun vs => by
  have q : ∀ (us ws : List Nat), (∀ u ∈ us, u ∈ ws) → L2.wipe (L2.wipe σ us) ws = L2.wipe σ ws := by
    intro us
    induction us with
    | nil => intro ws _; rfl
    | cons u us ih =>
      intro ws h
      show L2.wipe ((L2.wipe σ us).set u none) ws = _
      rw [wipe_comm _ _ _ ws (h u List.mem_cons_self), ih ws fun v hv => h v (List.mem_cons_of_mem _ hv)]
  exact q vs vs fun _ h => h
/-- the layer's reading of a target of names -/
def tgL (K : PySem.W.Frag) : Tg → TG
  | .nm i => gName i
  | .tp is => gTup K is.length (gNames is)
theorem gNames_wipe {K : PySem.W.Frag} {ι : List Addr} {H : Hp} {Q : St → Hp → Prop} {ws : List Nat} : ∀ {is : List Nat} {ds : List D} {vs : List V} {σ : St} {ρ ρ' : Env}, (∀ i ∈ is, i ∈ ws) → RS K ι H σ ρ → RVs K ι H ds vs → setAll is ds ρ = some ρ' →
    (∀ σ', RS K ι H σ' ρ' → L2.wipe σ' ws = L2.wipe σ ws → Q σ' H) → gNames is vs σ H Q
  | [], [], _, σ, ρ, _, _, rs, .nil, e, k => by cases e; exact ⟨rfl, k σ rs rfl⟩
  | i :: is, d :: ds, _, σ, ρ, _, hw, rs, .cons r t, e, k => ⟨_, _, rfl, gNames_wipe (is := is) (fun j hj => hw j (List.mem_cons_of_mem _ hj)) (rs.put r) t e fun σ' rs' e' => k σ' rs' (by rw [e', wipe_comm _ _ _ _ (hw i List.mem_cons_self)])⟩
  | [], _ :: _, _, _, _, _, _, _, _, e, _ => by cases e
  | _ :: _, [], _, _, _, _, _, _, _, e, _ => by cases e
theorem tgL_of {K : PySem.W.Frag} {ι : List Addr} {H : Hp} {Q : St → Hp → Prop} {ws : List Nat} {t : Tg} {d : D} {v : V} {σ : St} {ρ ρ' : Env} (hw : ∀ i ∈ t.ixs, i ∈ ws) (rs : RS K ι H σ ρ) (rv : RV K ι H d v) (e : t.put d ρ = some ρ')
    (k : ∀ σ', RS K ι H σ' ρ' → L2.wipe σ' ws = L2.wipe σ ws → Q σ' H) : tgL K t v σ H Q := by
  cases t with
  | nm i =>
    cases e
    exact k _ (rs.put rv) (wipe_comm _ _ _ _ (hw i (by simp [Tg.ixs])))
  | tp is =>
    cases rv with
    | par hs rvs => exact ⟨_, _, rfl, .inl (.inl hs), by rw [← rvs.length, setAll_len e], gNames_wipe hw rs rvs e k⟩
    | tup hs rvs => exact ⟨_, _, rfl, hs.sq, by rw [← rvs.length, setAll_len e], gNames_wipe hw rs rvs e k⟩
    | _ => cases e
open Classical in
noncomputable def cmpL (t : Tg) (c : B) (f : E) (lv : List (Nat × Ob)) (ρ : Env) : List D → Mem → Option (List D × Mem)
  | [], m => if chk lv m then some ([], m) else none
  | x :: xs, m => if chk lv m then (t.put x ρ).bind fun ρ' => (c ρ' m).bind fun b => match b.1 with
      | true => (f ρ' b.2).bind fun y => (cmpL t c f lv ρ xs (val y.1 y.2).2).bind fun r => some ((val y.1 y.2).1 :: r.1, r.2)
      | false => cmpL t c f lv ρ xs b.2
    else none
noncomputable def eComp (it : I) (vs : List Nat) (t : Tg) (c : B) (f : E) : E := fun ρ m => (it ρ m).bind fun s => (cmpL t c f s.1.live (wipeE ρ vs) s.1.items s.2).bind fun r => some (.o (.lst r.1), r.2)
section
variable {X : Cx} {e : Expr} {fa : E} {ca : B}
theorem cmp_core {K : PySem.W.Frag} {it : I} {vs : List Nat} {t : Tg} {σ : St} {H : Hp} {Q : VK} {ι : List Addr} {ρ : Env} {m m' : Mem} {r : Out} (hw : ∀ i ∈ t.ixs, i ∈ vs) (rs : RS K ι H σ ρ) (rm : RM K ι H m) (hf : eComp it vs t ca fa ρ m = some (r, m'))
    (k : ∀ v ι' H', Le ι H ι' H' → RM K ι' H' m' → RO K H ι' H' r v → Q v H') : tLc (tI K it) (tgL K t) (tT K ca) (tE K fa) vs σ H Q := by
  obtain ⟨s, h3, hf⟩ := bind_some hf
  obtain ⟨rr, h4, hf⟩ := bind_some hf
  cases hf
  refine ⟨ι, ρ, m, s.1, s.2, rs, rm, h3, fun J ι0 H0 l0 rm0 wk bd hsz => ?_⟩
  intro L hL
  have hLi : L ∉ ι0 := fun z => rm0.there L z hL
  -- W: behind i turns the new list holds acc, and the rest of the turns gives rest
  refine ⟨fun i n H1 => ∃ ι1 m1 acc vacc rest, n = s.1.items.length - i ∧ i ≤ s.1.items.length ∧ Le ι0 H0 ι1 H1 ∧ RM K ι1 H1 m1 ∧ L ∉ ι1 ∧ H1 L = some (.lst vacc) ∧ RVs K ι1 H1 acc vacc ∧ acc.length ≤ i ∧
    cmpL t ca fa s.1.live (wipeE ρ vs) (s.1.items.drop i) m1 = some rest ∧ rr = (acc ++ rest.1, rest.2), ⟨s.1.items.length, ι0, s.2, [], [], rr, by simp, Nat.zero_le _, ?_, ?_, hLi, upd_same, .nil, Nat.le_refl _, by simpa using h4, by simp⟩, ?_⟩
  · exact ⟨⟨[], by simp, by simp⟩, fun a o h _ => by rw [upd_ne (ne_of_none h hL)]; exact h⟩
  · refine ⟨rm0.nd, rm0.len, fun n b e => let ⟨a, e1, rb⟩ := rm0.ob n b e; ⟨a, e1, rb.mono ⟨⟨[], by simp, by simp⟩, fun a o h _ => by rw [upd_ne (ne_of_none h hL)]; exact h⟩ (upd_ne fun z => rb.isat (by rw [z]; exact hL))⟩⟩
  rintro i n H1 ⟨ι1, m1, acc, vacc, rest, en, hi, l1, rm1, hL1, eL, rva, hal, hc1, hrr⟩
  by_cases hlt : i < s.1.items.length
  · rw [List.drop_eq_getElem_cons hlt] at hc1
    unfold cmpL at hc1
    split at hc1
    next hc =>
      obtain ⟨ρ', h5, hc1⟩ := bind_some hc1
      obtain ⟨b, h6, hc1⟩ := bind_some hc1
      obtain ⟨_, w2⟩ := wk ι1 H1 m1 i l1 rm1 hc
      obtain ⟨go, w3⟩ := w2 _ (List.getElem?_eq_getElem hlt)
      refine .inr ⟨go, fun H' => ∃ ι1 m1 acc vacc rest, i + 1 ≤ s.1.items.length ∧ Le ι0 H0 ι1 H' ∧ RM K ι1 H' m1 ∧ L ∉ ι1 ∧ H' L = some (.lst vacc) ∧ RVs K ι1 H' acc vacc ∧ acc.length ≤ i + 1 ∧
        cmpL t ca fa s.1.live (wipeE ρ vs) (s.1.items.drop (i + 1)) m1 = some rest ∧ rr = (acc ++ rest.1, rest.2), fun H' ⟨a, b, c, d, e, f⟩ => ⟨s.1.items.length - (i + 1), by omega, a, b, c, d, e, rfl, f⟩, fun x H3 hy => ?_⟩
      obtain ⟨l3, rm3, rv3⟩ := w3 x H3 hy
      have rs3 : RS K ι1 H3 (L2.wipe σ vs) (wipeE ρ vs) := (((rs.mono l0).mono l1).mono l3).wipe vs
      have stay : ∀ {ι' H'}, Le ι1 H3 ι' H' → L ∉ ι' ∧ H' L = some (.lst vacc) := fun {ι' H'} l' => by
        have eL3 : H3 L = some (.lst vacc) := l3.keep L _ eL (.inr hL1)
        refine ⟨fun hm => ?_, l'.keep L _ eL3 (.inr hL1)⟩
        obtain ⟨nw, e2, f⟩ := l'.pre
        rw [e2] at hm
        rcases List.mem_append.mp hm with z | z
        · exact hL1 z
        · rw [f L z] at eL3; cases eL3
      refine tgL_of hw rs3 rv3 h5 fun σ2 rs2 ew => ⟨by rw [ew, wipe_wipe], ?_⟩
      refine ⟨ι1, ρ', m1, b.1, b.2, rs2, rm3, h6, fun ι4 H4 l4 rm4 bd4 => ?_⟩
      have l04 : Le ι0 H0 ι4 H4 := l1.tr rm1 (l3.tr rm3 l4)
      split at hc1
      · rename_i e1
        rw [e1]
        refine iteT ?_
        obtain ⟨y, h7, hc1⟩ := bind_some hc1
        obtain ⟨r2, h8, hc1⟩ := bind_some hc1
        cases hc1
        refine ⟨ι4, ρ', b.2, y.1, y.2, rs2.mono l4, rm4, h7, fun v ι5 H5 l5 rm5 ro5 bd5 => ?_⟩
        obtain ⟨hL5, eL5⟩ := stay (l4.tr rm4 l5)
        have ro6 : RO K H3 ι5 H5 y.1 v := ro5.from l4 rm4
        obtain ⟨ι6, l6, rm6, rv6, rs6, up, ups⟩ := ro6.val (l4.tr rm4 l5) rm5 ((rs2.mono l4).mono l5)
        obtain ⟨hL6, _⟩ := stay l6
        have hz : vacc.length < sizeLine := by rw [← rva.length]; omega
        have mL : Mut (H5 L) := by rw [eL5]; trivial
        have ku : Kp ι6 H5 ι6 (upd H5 L (.lst (vacc ++ [v]))) := Kp.upd mL
        refine ⟨vacc, eL5, hz, ι6, _, acc ++ [(val y.1 y.2).1], vacc ++ [v], r2, by omega, ?_, ?_, hL6, upd_same, ?_, by simp; omega, h8, by rw [hrr]; simp⟩
        · have l06 : Le ι0 H0 ι6 H5 := l1.tr rm1 (l3.tr rm3 l6)
          exact ⟨l06.pre, fun a o h c => by rw [upd_ne (ne_of_none h hL)]; exact l06.keep a o h c⟩
        · exact ⟨rm6.nd, rm6.len, fun n b e => let ⟨a, e1, rb⟩ := rm6.ob n b e; ⟨a, e1, rb.kp ku (upd_ne fun z => by subst z; exact hL6 (List.mem_of_getElem? e1))⟩⟩
        · exact (((ups _ _ (((rva.mono l3).mono l4).mono l5)).append (.cons rv6 .nil))).kp ku
      · rename_i e1
        rw [e1]
        refine iteF ?_
        obtain ⟨hL4, eL4⟩ := stay l4
        exact ⟨ι4, b.2, acc, vacc, rest, by omega, l04, rm4, hL4, eL4, (rva.mono l3).mono l4, by omega, hc1, hrr⟩
    next => cases hc1
  · rw [List.drop_eq_nil_of_le (by omega)] at hc1
    unfold cmpL at hc1
    split at hc1
    next hc =>
      cases hc1
      obtain ⟨w1, _⟩ := wk ι1 H1 m1 i l1 rm1 hc
      refine .inl ⟨w1 (by omega), ?_⟩
      rw [List.append_nil] at hrr
      subst hrr
      exact k _ ι1 H1 (l0.tr rm0 l1) rm1 ⟨L, rfl, l0.back rm0 hL, hL1, vacc, eL, rva⟩
    next => cases hc1
theorem se_comp {it : I} {vs : List Nat} {t : Tg} (h0 : PE X e (tLc (tI X.K it) (tgL X.K t) (tT X.K ca) (tE X.K fa) vs)) (hw : ∀ i ∈ t.ixs, i ∈ vs) : SE X e (eComp it vs t ca fa) := pe_imp h0 fun σ H Q ⟨ι, ρ, m, z, m', rs, rm, hf, k⟩ => cmp_core hw rs rm hf k
theorem ss_setComp {st : Stmt} {it : I} {vs : List Nat} {t : Tg} {i : Nat} (h0 : PS X st (tAsg (tLc (tI X.K it) (tgL X.K t) (tT X.K ca) (tE X.K fa) vs) (gName i))) (hw : ∀ i ∈ t.ixs, i ∈ vs) : SS X st (sSet i (eComp it vs t ca fa)) := ps_imp h0 fun D σ H ⟨ι, ρ, m, r, rs, rm, hf, k⟩ => by
  obtain ⟨x, h3, hf⟩ := bind_some hf
  cases hf
  refine cmp_core hw rs rm (r := x.1) (m' := x.2) h3 fun v ι1 H1 l1 rm1 ro1 => ?_
  obtain ⟨ι2, l2, rm2, rv, rs2, _, _⟩ := ro1.val l1 rm1 (rs.mono l1)
  exact k _ ι2 H1 l2 (rs2.put rv) rm2
end

/-! ### a def's end: what it made goes, but for what it hands back -/
mutual
def D.lo (n : Nat) : D → Prop
  | .tup xs => loL n xs
  | .fl xs => loL n xs
  | .par xs => loL n xs
  | .ref k => k < n
  | .lam _ xs => loL n xs
  | _ => True
def loL (n : Nat) : List D → Prop
  | [] => True
  | d :: ds => d.lo n ∧ loL n ds
end
def loK (n : Nat) : List (D × D) → Prop
  | [] => True
  | d :: ds => d.1.lo n ∧ d.2.lo n ∧ loK n ds
def Ob.lo (n : Nat) : Ob → Prop
  | .lst xs => loL n xs
  | .dct kvs => loK n kvs
  | .dcr kvs => loK n kvs
  | .tab _ => True
def okM (m m' : Mem) : Prop := ∀ i b, i < m.length → m'[i]? = some b → m[i]? = some b ∨ b.lo m.length
open Classical in
noncomputable def shut (m : Mem) (r : Out) (m' : Mem) : Out × Mem :=
  if okM m m' then match r with
    | .v d => if d.lo m.length then (.v d, m'.take m.length) else match d with
      | .ref k => (match m'[k]? with
        | some b => if b.lo m.length then (.o b, m'.take m.length) else (.v (.ref k), m')
        | none => (.v (.ref k), m'))
      | d => (.v d, m')
    | .o b => if b.lo m.length then (.o b, m'.take m.length) else (.o b, m')
  else (r, m')
noncomputable def fnD (np ns : Nat) (body : S) : Fn := fun ds m => if ds.length = np then (body (ds.map some ++ List.replicate (ns - np) none) m).bind fun r => match r with
  | .rt x m' => some (shut m x m')
  | .nx _ m' => some (shut m (.v .non) m')
  | _ => none
  else none
section
variable {K : PySem.W.Frag} {ι ι' : List Addr} {H H' : Hp} {m m' : Mem}
mutual
theorem RV.down {n : Nat} (e : ∀ k a, k < n → ι'[k]? = some a → ι[k]? = some a) : ∀ {d : D} {v : V}, RV K ι' H d v → d.lo n → RV K ι H d v
  | _, _, .non, _ => .non
  | _, _, .bl b, _ => .bl b
  | _, _, .int i, _ => .int i
  | _, _, .str s, _ => .str s
  | _, _, .tup h r, b => .tup h (RVs.down e r (by simpa [D.lo] using b))
  | _, _, .fl h r, b => .fl h (RVs.down e r (by simpa [D.lo] using b))
  | _, _, .par h r, b => .par h (RVs.down e r (by simpa [D.lo] using b))
  | _, _, .ref h, b => .ref (e _ _ (by simpa [D.lo] using b) h)
  | _, _, .lam h r, b => .lam h (RVs.down e r (by simpa [D.lo] using b))
theorem RVs.down {n : Nat} (e : ∀ k a, k < n → ι'[k]? = some a → ι[k]? = some a) : ∀ {ds : List D} {vs : List V}, RVs K ι' H ds vs → loL n ds → RVs K ι H ds vs
  | _, _, .nil, _ => .nil
  | _, _, .cons h r, b => by
    rw [loL] at b
    exact .cons (RV.down e h b.1) (RVs.down e r b.2)
end
mutual
theorem RV.bel : ∀ {d : D} {v : V}, RV K ι H d v → d.lo ι.length
  | _, _, .non => by simp [D.lo]
  | _, _, .bl b => by simp [D.lo]
  | _, _, .int i => by simp [D.lo]
  | _, _, .str s => by simp [D.lo]
  | _, _, .tup h r => by rw [D.lo]; exact RVs.bel r
  | _, _, .fl h r => by rw [D.lo]; exact RVs.bel r
  | _, _, .par h r => by rw [D.lo]; exact RVs.bel r
  | _, _, .ref h => by rw [D.lo]; exact (List.getElem?_eq_some_iff.mp h).1
  | _, _, .lam h r => by rw [D.lo]; exact RVs.bel r
theorem RVs.bel : ∀ {ds : List D} {vs : List V}, RVs K ι H ds vs → loL ι.length ds
  | _, _, .nil => by simp [loL]
  | _, _, .cons h r => by rw [loL]; exact ⟨RV.bel h, RVs.bel r⟩
end
mutual
theorem noRefKey (n : Nat) : ∀ k : Key, (kD k).lo n
  | .inl i => by simp [kD, D.lo]
  | .inr i => by simp [kD, D.lo]
end
theorem noRefKeys (n : Nat) : ∀ ks : List Key, loL n (ks.map kD)
  | [] => by simp [loL]
  | k :: ks => by simp only [List.map_cons]; rw [loL]; exact ⟨noRefKey n k, noRefKeys n ks⟩
mutual
theorem noRefN (n : Nat) : ∀ k : NestedKey, (kN k).lo n
  | .none => by simp [kN, D.lo]
  | .num i => by simp [kN, D.lo]
  | .text i => by simp [kN, D.lo]
  | .tup ks => by rw [kN, D.lo]; exact noRefNs n ks
theorem noRefNs (n : Nat) : ∀ ks : List NestedKey, loL n (kNs ks)
  | [] => by rw [kNs, loL]; trivial
  | k :: ks => by rw [kNs, loL]; exact ⟨noRefN n k, noRefNs n ks⟩
end
theorem RB.bel {b : Ob} {a : Addr} (h : RB K ι H b a) : b.lo ι.length := by
  cases b with
  | lst xs => obtain ⟨vs, _, r⟩ := h; exact r.bel
  | dct kvs =>
    obtain ⟨ks, e1, r⟩ := h
    show loK _ _
    clear e1
    induction r with
    | nil => simp [loK]
    | cons h _ ih => rw [loK]; exact ⟨by rw [h.1]; exact noRefKey _ _, h.2.bel, ih⟩
  | dcr kvs =>
    obtain ⟨ks, e1, r⟩ := h
    show loK _ _
    clear e1
    induction r with
    | nil => simp [loK]
    | cons h _ ih => rw [loK]; exact ⟨by rw [h.1]; exact noRefN _ _, h.2.bel, ih⟩
  | tab q => trivial
theorem RB.down {b : Ob} {a : Addr} {n : Nat} (e : ∀ k a, k < n → ι'[k]? = some a → ι[k]? = some a) (h : RB K ι' H b a) (hb : b.lo n) : RB K ι H b a := by
  cases b with
  | lst xs => obtain ⟨vs, e1, r⟩ := h; exact ⟨vs, e1, r.down e hb⟩
  | dct kvs =>
    have hb' : loK n kvs := hb
    obtain ⟨ks, e1, r⟩ := h
    refine ⟨ks, e1, ?_⟩
    clear hb e1
    induction r with
    | nil => exact .nil
    | cons h _ ih => rw [loK] at hb'; exact .cons ⟨h.1, h.2.down e hb'.2.1⟩ (ih hb'.2.2)
  | dcr kvs =>
    have hb' : loK n kvs := hb
    obtain ⟨ks, e1, r⟩ := h
    refine ⟨ks, e1, ?_⟩
    clear hb e1
    induction r with
    | nil => exact .nil
    | cons h _ ih => rw [loK] at hb'; exact .cons ⟨h.1, h.2.down e hb'.2.1⟩ (ih hb'.2.2)
  | tab q => exact h
theorem shut_ok {r : Out} {v : V} (rm0 : RM K ι H m) (l : Le ι H ι' H') (rm : RM K ι' H' m') (ro : RO K H ι' H' r v) : ∃ ι2, Le ι H ι2 H' ∧ RM K ι2 H' (shut m r m').2 ∧ RO K H ι2 H' (shut m r m').1 v := by
  obtain ⟨nw, e, hn⟩ := l.pre
  have le0 : Le ι H ι H' := ⟨⟨[], by simp, by simp⟩, l.keep⟩
  have dn : ∀ k a, k < m.length → ι'[k]? = some a → ι[k]? = some a := fun k a hk h => by
    rw [e, List.getElem?_append_left (by rw [rm0.len]; exact hk)] at h; exact h
  have keepAll : (RM K ι' H' m' ∧ RO K H ι' H' r v) := ⟨rm, ro⟩
  by_cases hok : okM m m'
  · have hlen : m.length ≤ m'.length := by rw [← rm0.len, ← rm.len, e]; simp
    have rmT : RM K ι H' (m'.take m.length) := by
      refine ⟨rm0.nd, by rw [List.length_take, rm0.len]; omega, fun n b hb => ?_⟩
      have hnl : n < m.length := by
        have := (List.getElem?_eq_some_iff.mp hb).1
        rw [List.length_take] at this; omega
      rw [List.getElem?_take_of_lt hnl] at hb
      obtain ⟨a, e1, rb⟩ := rm.ob n b hb
      have bb : b.lo m.length := by
        rcases hok n b hnl hb with h | h
        · obtain ⟨_, _, rb0⟩ := rm0.ob n b h
          have := rb0.bel; rw [rm0.len] at this; exact this
        · exact h
      exact ⟨a, dn n a hnl e1, rb.down dn bb⟩
    unfold shut
    rw [if_pos hok]
    cases r with
    | v d =>
      by_cases hb : d.lo m.length
      · simp only [if_pos hb]
        exact ⟨ι, le0, rmT, RV.down dn ro hb⟩
      · simp only [if_neg hb]
        cases d with
        | ref k =>
          cases hk : m'[k]? with
          | none => simp only [hk]; exact ⟨ι', l, rm, ro⟩
          | some b =>
            by_cases hbb : b.lo m.length
            · simp only [hk, if_pos hbb]
              obtain ⟨a, e1, rb⟩ := rm.ob k b hk
              cases ro with
              | ref h1 =>
                rw [e1] at h1
                cases h1
                have hk2 : m.length ≤ k := by
                  rw [D.lo] at hb; omega
                have hm : a ∈ nw := by
                  rw [e, List.getElem?_append_right (by rw [rm0.len]; exact hk2)] at e1
                  exact List.mem_of_getElem? e1
                exact ⟨ι, le0, rmT, a, rfl, hn a hm, fun z => rm0.there a z (hn a hm), rb.down dn hbb⟩
            · simp only [hk, if_neg hbb]
              exact ⟨ι', l, rm, ro⟩
        | _ => exact ⟨ι', l, rm, ro⟩
    | o b =>
      by_cases hb : b.lo m.length
      · simp only [if_pos hb]
        obtain ⟨p, e1, e2, e3, rb⟩ := ro
        exact ⟨ι, le0, rmT, p, e1, e2, fun z => e3 (l.subset p z), rb.down dn hb⟩
      · simp only [if_neg hb]
        exact ⟨ι', l, rm, ro⟩
  · unfold shut
    rw [if_neg hok]
    exact ⟨ι', l, rm, ro⟩
end
theorem fnD_len {np ns : Nat} {body : S} : ∀ ds m r, fnD np ns body ds m = some r → ds.length = np := fun ds m r h => by
  unfold fnD at h
  split at h
  · assumption
  · cases h
section
variable {P : Program} {w : World} {K : PySem.W.Frag} {mg : Str → Option Value} {base : Heap}
theorem RVs.start {ι : List Addr} {H : Hp} {N : List Str} : ∀ {ds : List D} {vs : List V}, RVs K ι H ds vs → RS K ι H (start N vs) (ds.map some ++ List.replicate (N.length - ds.length) none) := fun {ds vs} r => by
  unfold L2.start
  rw [r.length]
  refine ⟨by simp [r.length], fun i d e => ?_⟩
  by_cases hi : i < ds.length
  · rw [List.getElem?_append_left (by simpa using hi), List.getElem?_map] at e
    cases q : ds[i]? with
    | none => rw [q] at e; cases e
    | some d' =>
      rw [q] at e
      cases e
      obtain ⟨v, h1, h2⟩ := r.get q
      exact ⟨v, by rw [List.getElem?_append_left (by rw [List.length_map, ← r.length]; exact hi), List.getElem?_map, h1]; rfl, h2⟩
  · rw [List.getElem?_append_right (by simpa using hi), List.getElem?_replicate] at e
    split at e <;> cases e
/-- THE RULE for a def -/
theorem fn_ok {x qual : Str} {st : Stmt} {f : Addr} {fd : FuncData} {N ps : List Str} {k : Nat} {body : S} {np ns : Nat} (F : Fun K x qual st f fd) (Sc : FnScope N ps (defScope st)) (hp : ps.length = np) (hn : N.length = ns)
    (hb : ∀ (cdv : Value) (A : Around) (outer : List PySem.Env) (s : Shared) (H : Hp) (E : XK), Room k (A.deeper (PyProof.Rows.envOfC qual (defScope st) s.heap.objs.size f cdv)) → SSs (cxOf CX0 P w K mg base N qual (defScope st) f cdv A outer s H E).nox (defBody st) body) :
    FnOk P w K mg base CX0 (k + 1) f fd ps (spF K np (fnD np ns body)) := by
  refine F.ok Sc (fun vs H Q E h => ?_) (fun cdv A outer s H vs Q E hr h => ?_)
  · obtain ⟨ι, ds, m, r, m', hl, rvs, _⟩ := h
    rw [← rvs.length, hl, hp]
  · obtain ⟨ι, ds, m, r, m', hl, rvs, rm, hf, k⟩ := h
    refine ⟨_, hb cdv A outer s H E hr, ?_⟩
    unfold fnD at hf
    rw [if_pos hl] at hf
    obtain ⟨z, h1, hf⟩ := bind_some hf
    have rs := rvs.start (N := N)
    rw [hl, hn] at rs
    refine ⟨ι, _, m, z, rs, rm, h1, ?_⟩
    cases z with
    | rt x m1 =>
      have e : shut m x m1 = (r, m') := Option.some.inj hf
      intro v ι1 H1 l1 rm1 ro1
      obtain ⟨ι2, a, b, c⟩ := shut_ok rm l1 rm1 ro1
      rw [e] at b c
      exact k v ι2 H1 a b c
    | nx ρ' m1 =>
      have e : shut m (.v .non) m1 = (r, m') := Option.some.inj hf
      intro σ ι1 H1 l1 rs1 rm1
      obtain ⟨ι2, a, b, c⟩ := shut_ok (r := .v .non) (v := V.non) rm l1 rm1 (show RO K H ι1 H1 (.v .non) V.non from RV.non)
      rw [e] at b c
      exact k _ ι2 H1 a b c
    | bk _ _ => cases hf
    | ct _ _ => cases hf
end
end Q
namespace Q
open PySem L2

/-! ### helpers -/
theorem bdec {α : Type} [DecidableEq α] (a b : α) [BEq α] [LawfulBEq α] : (a == b) = decide (a = b) := by
  by_cases h : a = b
  · subst h; simp
  · simp [h]
theorem RVs.rep {K : PySem.W.Frag} {ι : List Addr} {H : Hp} {ds : List D} {vs : List V} (r : RVs K ι H ds vs) : ∀ n : Nat, RVs K ι H (List.replicate n ds).flatten (List.replicate n vs).flatten
  | 0 => .nil
  | n + 1 => by rw [List.replicate_succ, List.replicate_succ, List.flatten_cons, List.flatten_cons]; exact r.append (r.rep n)
theorem nd_inj {α : Type} {l : List α} (nd : l.Nodup) {i j : Nat} (hi : i < l.length) (hj : j < l.length) (e : l[i] = l[j]) : i = j := by
  have q := List.pairwise_iff_getElem.mp nd
  rcases Nat.lt_trichotomy i j with h | h | h
  · exact absurd e (q i j hi hj h)
  · exact h
  · exact absurd e.symm (q j i hj hi h)
section
variable {K : PySem.W.Frag} {ι : List Addr} {H H0 : Hp} {m : Mem} {p : Addr} {vs : List V} {ds : List D}
theorem Le.newAt {o : HO} (hp : H p = none) : Le ι H ι (upd H p o) := ⟨⟨[], by simp, by simp⟩, fun a u h _ => by rw [upd_ne (ne_of_none h hp)]; exact h⟩
theorem RM.newAt {o : HO} (rm : RM K ι H m) (hp : H p = none) : RM K ι (upd H p o) m :=
  ⟨rm.nd, rm.len, fun n b e => let ⟨a, e1, rb⟩ := rm.ob n b e; ⟨a, e1, rb.mono (Le.newAt hp) (upd_ne fun z => rb.isat (by rw [z]; exact hp))⟩⟩
theorem new_tup {o : Obj} (hp : H p = none) (ho : o.dict = none) (r : RVs K ι H ds vs) : RV K ι (upd H p (.frz o (.tup vs))) (.tup ds) (.ref p) := .tup (.inl ⟨o, upd_same, ho⟩) (r.mono (Le.newAt hp))
theorem new_par (hp : H p = none) (r : RVs K ι H ds vs) : RV K ι (upd H p (.tup vs)) (.par ds) (.ref p) := .par upd_same (r.mono (Le.newAt hp))
theorem new_lst (rm : RM K ι H m) (hp : H p = none) (r : RVs K ι H ds vs) : RO K H ι (upd H p (.lst vs)) (.o (.lst ds)) (.ref p) := ⟨p, rfl, hp, fun z => rm.there p z hp, vs, upd_same, r.mono (Le.newAt hp)⟩
/-- a list in the memory is written -/
theorem set_lst {n : Nat} {a : Addr} {ws : List V} {es : List D} (rm : RM K ι H m) (e : ι[n]? = some a) (h : H a = some (.lst ws)) (r : RVs K ι H es vs) :
    Le ι H ι (upd H a (.lst vs)) ∧ RM K ι (upd H a (.lst vs)) (m.set n (.lst es)) := by
  have mu : Mut (H a) := by rw [h]; trivial
  have ku : Kp ι H ι (upd H a (.lst vs)) := Kp.upd mu
  have ha : a ∈ ι := List.mem_of_getElem? e
  refine ⟨⟨⟨[], by simp, by simp⟩, fun b u hb c => ?_⟩, ⟨rm.nd, by simp [rm.len], fun k b hb => ?_⟩⟩
  · by_cases z : b = a
    · subst z
      rw [hb] at mu
      rcases c with c | c
      · exact (nofz mu c).elim
      · exact absurd ha c
    · rw [upd_ne z]; exact hb
  · by_cases z : n = k
    · subst z
      have hl : n < m.length := by rw [← rm.len]; exact (List.getElem?_eq_some_iff.mp e).1
      rw [List.getElem?_set_self hl] at hb
      cases hb
      exact ⟨a, e, vs, upd_same, r.kp ku⟩
    · rw [List.getElem?_set_ne z] at hb
      obtain ⟨a', e1, rb⟩ := rm.ob k b hb
      refine ⟨a', e1, rb.kp ku (upd_ne fun q => z ?_)⟩
      subst q
      have h1 := (List.getElem?_eq_some_iff.mp e)
      have h2 := (List.getElem?_eq_some_iff.mp e1)
      exact nd_inj rm.nd h1.1 h2.1 (h1.2.trans h2.2.symm)
end
/-- lists and tuples that are read -/
def seqOf (x : Out) (m : Mem) : Option (List D) := match x with
  | .v (.tup a) => some a
  | .v (.fl a) => some a
  | .v (.ref n) => (match m[n]? with | some (.lst a) => some a | _ => none)
  | .o (.lst a) => some a
  | _ => none
/-- lists that stand in the heap by themselves -/
def lstOf (x : Out) (m : Mem) : Option (List D) := match x with
  | .v (.ref n) => (match m[n]? with | some (.lst a) => some a | _ => none)
  | .o (.lst a) => some a
  | _ => none
section
variable {K : PySem.W.Frag} {ι : List Addr} {H H0 : Hp} {m : Mem} {x : Out} {v : V} {xs : List D}
theorem lst_at (rm : RM K ι H m) (ro : RO K H0 ι H x v) (h : lstOf x m = some xs) : ∃ a vs, v = .ref a ∧ H a = some (.lst vs) ∧ RVs K ι H xs vs := by
  unfold lstOf at h
  split at h
  · split at h
    · rename_i n _ ys hm
      cases h
      cases ro with
      | ref e =>
        obtain ⟨a, e1, vs, e2, r⟩ := rm.ob _ _ hm
        rw [e] at e1
        cases e1
        exact ⟨_, vs, rfl, e2, r⟩
    · cases h
  · cases h
    obtain ⟨p, e, _, _, vs, e2, r⟩ := ro
    exact ⟨p, vs, e, e2, r⟩
  · cases h
theorem seq_at (rm : RM K ι H m) (ro : RO K H0 ι H x v) (h : seqOf x m = some xs) : ∃ a vs, v = .ref a ∧ (SqL K H a vs ∨ SqT K H a vs) ∧ RVs K ι H xs vs := by
  unfold seqOf at h
  split at h
  · cases h
    cases ro with
    | tup hs r => exact ⟨_, _, rfl, .inr hs.sq, r⟩
  · cases h
    cases ro with
    | fl hs r => exact ⟨_, _, rfl, .inl hs.sq, r⟩
  · split at h
    · rename_i n _ ys hm
      cases h
      cases ro with
      | ref e =>
        obtain ⟨a, e1, vs, e2, r⟩ := rm.ob _ _ hm
        rw [e] at e1
        cases e1
        exact ⟨_, vs, rfl, .inl (.inl (.inl e2)), r⟩
    · cases h
  · cases h
    obtain ⟨p, e, _, _, vs, e2, r⟩ := ro
    exact ⟨p, vs, e, .inl (.inl (.inl e2)), r⟩
  · cases h
end

/-- lists and tuples, apart -/
theorem seq_at2 {K : PySem.W.Frag} {ι : List Addr} {H H0 : Hp} {m : Mem} {x : Out} {v : V} {xs : List D} (rm : RM K ι H m) (ro : RO K H0 ι H x v) (h : seqOf x m = some xs) : (∃ a vs, v = .ref a ∧ SqL K H a vs ∧ RVs K ι H xs vs) ∨ ∃ a vs, v = .ref a ∧ TpAt K H a vs ∧ RVs K ι H xs vs := by
  unfold seqOf at h
  split at h
  · cases h
    cases ro with
    | tup hs r => exact .inr ⟨_, _, rfl, hs, r⟩
  · cases h
    cases ro with
    | fl hs r => exact .inl ⟨_, _, rfl, hs.sq, r⟩
  · split at h
    · rename_i n _ ys hm
      cases h
      cases ro with
      | ref e =>
        obtain ⟨a, e1, vs, e2, r⟩ := rm.ob _ _ hm
        rw [e] at e1
        cases e1
        exact .inl ⟨_, vs, rfl, .inl (.inl e2), r⟩
    · cases h
  · cases h
    obtain ⟨p, e, _, _, vs, e2, r⟩ := ro
    exact .inl ⟨p, vs, e, .inl (.inl e2), r⟩
  · cases h
/-! ### + -/
noncomputable def addF (x : Out) (y : Out) (m : Mem) : Option (Out × Mem) := match x, y with
  | .v (.int i), .v (.int j) => some (.v (.int (i + j)), m)
  | .v (.str a), .v (.str b) => if fits (a.length + b.length) then some (.v (.str (a ++ b)), m) else none
  | .v (.tup a), .v (.tup b) => if fits (a.length + b.length) then some (.v (.tup (a ++ b)), m) else none
  | x, y => (lstOf x m).bind fun a => (lstOf y m).bind fun b => if fits (a.length + b.length) then some (.o (.lst (a ++ b)), m) else none
def rAddU (K : PySem.W.Frag) : R2 := fun x y H Q => ((((∃ i j, x = .int i ∧ y = .int j ∧ Q (.int (i + j)) H) ∨ (∃ i j, x = .str i ∧ y = .str j ∧ i.length + j.length ≤ sizeLine ∧ Q (.str (i ++ j)) H)) ∨ rCatN K x y H Q) ∨ rCat x y H Q)
theorem op_addU {X : Cx} : OpR X (binaryOp .Add) (rAddU X.K) := ((op_add.or op_add_str).or op_catN).or op_cat
theorem addU {K : PySem.W.Frag} : R2S K (rAddU K) addF := by
  intro ι H H0 m x y z vx vy m' Q rm bd rx ry hf k
  unfold addF at hf
  split at hf
  · cases hf; cases rx; cases ry
    exact .inl (.inl (.inl ⟨_, _, rfl, rfl, k _ ι H (Le.refl _ _) rm (RV.int _)⟩))
  · split at hf
    · rename_i hl; cases hf; cases rx; cases ry
      exact .inl (.inl (.inr ⟨_, _, rfl, rfl, hl, k _ ι H (Le.refl _ _) rm (RV.str _)⟩))
    · cases hf
  · split at hf
    · rename_i hl; cases hf
      cases rx with
      | tup h1 r1 =>
        cases ry with
        | tup h2 r2 =>
          refine .inl (.inr ⟨_, _, _, _, rfl, rfl, h1.sq, h2.sq, by rw [← r1.length, ← r2.length]; exact hl, fun e => ?_, fun _ e => ?_, fun _ _ p o hp ho => ?_⟩)
          · subst e; cases r1
            exact k _ ι H (Le.refl _ _) rm (RV.tup h2 r2)
          · subst e; cases r2
            rw [List.append_nil] at k
            exact k _ ι H (Le.refl _ _) rm (RV.tup h1 r1)
          · exact k _ ι _ (Le.newAt hp) (rm.newAt hp) (new_tup hp ho (r1.append r2))
    · cases hf
  · obtain ⟨a, h1, hf⟩ := bind_some hf
    obtain ⟨b, h2, hf⟩ := bind_some hf
    split at hf
    · rename_i hl; cases hf
      obtain ⟨p1, v1, rfl, e1, r1⟩ := lst_at rm rx h1
      obtain ⟨p2, v2, rfl, e2, r2⟩ := lst_at rm ry h2
      exact .inr ⟨_, _, _, _, rfl, rfl, e1, e2, by rw [← r1.length, ← r2.length]; exact hl, fun p hp => k _ ι _ (Le.newAt hp) (rm.newAt hp) (new_lst rm hp (r1.append r2))⟩
    · cases hf

/-! ### other arithmetic of ints -/
def subF (x : Out) (y : Out) (m : Mem) : Option (Out × Mem) := match x, y with
  | .v (.int i), .v (.int j) => some (.v (.int (i - j)), m)
  | _, _ => none
theorem subU {K : PySem.W.Frag} : R2S K (rI0 fun i j => .int (i - j)) subF := by
  intro ι H H0 m x y z vx vy m' Q rm bd rx ry hf k
  unfold subF at hf
  split at hf
  · cases hf; cases rx; cases ry
    exact ⟨_, _, rfl, rfl, k _ ι H (Le.refl _ _) rm (RV.int _)⟩
  · cases hf
def modF (x : Out) (y : Out) (m : Mem) : Option (Out × Mem) := match x, y with
  | .v (.int i), .v (.int j) => if 0 < j then some (.v (.int (i % j)), m) else none
  | _, _ => none
theorem modU {K : PySem.W.Frag} : R2S K (rI (fun _ j => 0 < j) fun i j => .int (i % j)) modF := by
  intro ι H H0 m x y z vx vy m' Q rm bd rx ry hf k
  unfold modF at hf
  split at hf
  · split at hf
    · rename_i hj; cases hf; cases rx; cases ry
      exact ⟨_, _, rfl, rfl, hj, k _ ι H (Le.refl _ _) rm (RV.int _)⟩
    · cases hf
  · cases hf
def divOk (j : Int) : Prop := 0 < j ∧ j < 1073741824
noncomputable instance (j : Int) : Decidable (divOk j) := Classical.propDecidable _
@[simp] theorem divOk_nat {n : Nat} (h : 0 < n) (h2 : n ≤ 100000) : divOk (n : Int) := ⟨by omega, by omega⟩
@[simp] theorem divOk_2 : divOk 2 := ⟨by omega, by omega⟩
@[simp] theorem divOk_65537 : divOk 65537 := ⟨by omega, by omega⟩
noncomputable def divF (x : Out) (y : Out) (m : Mem) : Option (Out × Mem) := match x, y with
  | .v (.int i), .v (.int j) => if divOk j then some (.v (.int (i / j)), m) else none
  | _, _ => none
theorem divU {K : PySem.W.Frag} : R2S K (rI CDiv fun i j => .int (i / j)) divF := by
  intro ι H H0 m x y z vx vy m' Q rm bd rx ry hf k
  unfold divF at hf
  split at hf
  · split at hf
    · rename_i hj; cases hf; cases rx; cases ry
      exact ⟨_, _, rfl, rfl, hj, k _ ι H (Le.refl _ _) rm (RV.int _)⟩
    · cases hf
  · cases hf
def powOk (i j : Int) : Prop := 0 ≤ j ∧ j ≤ 1000000 ∧ i.natAbs < 2 ^ 64
noncomputable instance (i j : Int) : Decidable (powOk i j) := Classical.propDecidable _
noncomputable def powF (x : Out) (y : Out) (m : Mem) : Option (Out × Mem) := match x, y with
  | .v (.int i), .v (.int j) => if powOk i j then some (.v (.int (i ^ j.toNat)), m) else none
  | _, _ => none
theorem powU {K : PySem.W.Frag} : R2S K (rI CPow fun i j => .int (i ^ j.toNat)) powF := by
  intro ι H H0 m x y z vx vy m' Q rm bd rx ry hf k
  unfold powF at hf
  split at hf
  · split at hf
    · rename_i hj; cases hf; cases rx; cases ry
      exact ⟨_, _, rfl, rfl, hj, k _ ι H (Le.refl _ _) rm (RV.int _)⟩
    · cases hf
  · cases hf
def strMulOk (a : Str) (n : Int) : Prop := -(2 ^ 63) ≤ n ∧ n < 2 ^ 63 ∧ a.length * n.toNat ≤ sizeLine
theorem op_mul_str {X : Cx} : OpR X (binaryOp .Mult) (fun x y H Q => ∃ a n, x = .str a ∧ y = .int n ∧ MulOk a n ∧ Q (.str (Txt.mul a n)) H) := by
  intro pins s σ H x y v u Q I rx ry h
  obtain ⟨a, n, rfl, rfl, hok, q⟩ := h
  obtain ⟨t, rfl⟩ := rx
  obtain ⟨t', rfl⟩ := ry
  exact SB.mul hok fun t' k => ⟨.str (Txt.mul a n), H, I.tok _, ⟨_, rfl⟩, q⟩
/-- within 63 bits; a small power -/
def i63 (n : Int) : Prop := -(2 ^ 63) ≤ n ∧ n < 2 ^ 63
noncomputable instance (i : Int) : Decidable (i63 i) := Classical.propDecidable _
@[simp] theorem i63_of {n : Int} (h : -1000000000 ≤ n) (h2 : n ≤ 1000000000) : i63 n := ⟨by omega, by omega⟩
/-- products: one side within 64 bits -/
def mulOk (i j : Int) : Prop := (-(2 ^ 64) < i ∧ i < 2 ^ 64) ∨ (-(2 ^ 64) < j ∧ j < 2 ^ 64)
noncomputable instance (i j : Int) : Decidable (mulOk i j) := Classical.propDecidable _
noncomputable def mulF (x : Out) (y : Out) (m : Mem) : Option (Out × Mem) := match x, y with
  | .v (.int i), .v (.int j) => if mulOk i j then some (.v (.int (i * j)), m) else none
  | .v (.str a), .v (.int n) => if i63 n ∧ fits (a.length * n.toNat) then some (.v (.str (Txt.mul a n)), m) else none
  | x, .v (.int k) => (lstOf x m).bind fun a => if i63 k ∧ fits (a.length * k.toNat) then some (.o (.lst (List.replicate k.toNat a).flatten), m) else none
  | _, _ => none
theorem mulOk_of {a : Str} {n : Int} (h1 : -(2 ^ 63) ≤ n) (h2 : n < 2 ^ 63) (h3 : a.length * n.toNat ≤ sizeLine) : MulOk a n := by
  have hs : sizeLine = 16777216 := sizeLine_eq
  refine ⟨?_, fun h4 _ h5 => ?_, fun h4 _ => ?_⟩
  · have a1 : ¬ (n < -(2 ^ 63 : Int)) := by omega
    have a2 : ¬ (n ≥ 2 ^ 63) := by omega
    rw [decide_eq_false a1, decide_eq_false a2]; rfl
  · have h6 : (1 : Int) ≤ n := by omega
    have h7 : (a.length : Int) * n ≤ 16777216 := by
      have h := Int.ofNat_le.mpr (Nat.le_trans h3 (Nat.le_of_eq hs))
      rw [Int.natCast_mul, Int.toNat_of_nonneg (by omega)] at h
      exact h
    have h8 := Int.lt_ediv_add_one_mul_self (2 ^ 63 - 1) (b := n) (by omega)
    have h9 : ((2 ^ 63 - 1) / n + 1) * n ≤ (a.length : Int) * n := Int.mul_le_mul_of_nonneg_right (by omega) (by omega)
    omega
  · show decide (a.length * n.toNat > sizeLine) = false
    exact decide_eq_false (by omega)
def rMulU : R2 := fun x y H Q => ((rI CMul fun i j => .int (i * j)) x y H Q ∨ (∃ a n, x = .str a ∧ y = .int n ∧ MulOk a n ∧ Q (.str (Txt.mul a n)) H)) ∨ rRep x y H Q
theorem op_mulU {X : Cx} : OpR X (binaryOp .Mult) rMulU := (op_mul.or op_mul_str).or op_rep
theorem mulU {K : PySem.W.Frag} : R2S K rMulU mulF := by
  intro ι H H0 m x y z vx vy m' Q rm bd rx ry hf k
  unfold mulF at hf
  split at hf
  · split at hf
    · rename_i hj; cases hf; cases rx; cases ry
      exact .inl (.inl ⟨_, _, rfl, rfl, hj, k _ ι H (Le.refl _ _) rm (RV.int _)⟩)
    · cases hf
  · split at hf
    · rename_i hj; cases hf; cases rx; cases ry
      exact .inl (.inr ⟨_, _, rfl, rfl, mulOk_of hj.1.1 hj.1.2 hj.2, k _ ι H (Le.refl _ _) rm (RV.str _)⟩)
    · cases hf
  · obtain ⟨a, h1, hf⟩ := bind_some hf
    split at hf
    · rename_i hj; cases hf; cases ry
      obtain ⟨p1, v1, rfl, e1, r1⟩ := lst_at rm rx h1
      exact .inr ⟨_, _, _, rfl, rfl, e1, hj.1.1, hj.1.2, by rw [← r1.length]; exact hj.2, fun p hp => k _ ι _ (Le.newAt hp) (rm.newAt hp) (new_lst rm hp (r1.rep _))⟩
    · cases hf
  · cases hf
def negF (x : Out) (m : Mem) : Option (Out × Mem) := match x with
  | .v (.int i) => some (.v (.int (-i)), m)
  | _ => none
theorem negU {K : PySem.W.Frag} : R1S K (rU fun i => .int (-i)) negF := by
  intro ι H H0 m x z vx m' Q rm bd rx hf k
  unfold negF at hf
  split at hf
  · cases hf; cases rx
    exact ⟨_, rfl, k _ ι H (Le.refl _ _) rm (RV.int _)⟩
  · cases hf
/-! ### order of ints -/
def cmpF (p : Int → Int → Bool) (x : Out) (y : Out) (m : Mem) : Option (Out × Mem) := match x, y with
  | .v (.int i), .v (.int j) => some (.v (.bl (p i j)), m)
  | _, _ => none
theorem cmpU {K : PySem.W.Frag} {p : Int → Int → Bool} : R2S K (rI0 fun i j => .bl (p i j)) (cmpF p) := by
  intro ι H H0 m x y z vx vy m' Q rm bd rx ry hf k
  unfold cmpF at hf
  split at hf
  · cases hf; cases rx; cases ry
    exact ⟨_, _, rfl, rfl, k _ ι H (Le.refl _ _) rm (RV.bl _)⟩
  · cases hf
abbrev ltF : F2 := cmpF fun i j => decide (i < j)
abbrev leF : F2 := cmpF fun i j => decide (i ≤ j)
abbrev gtF : F2 := cmpF fun i j => decide (j < i)
abbrev geF : F2 := cmpF fun i j => decide (j ≤ i)

/-! ### == of data -/
mutual
def okD : Nat → D → Bool
  | _, .non => true
  | _, .bl _ => true
  | _, .int _ => true
  | _, .str s => PyData.strOk s
  | n, .tup xs => (match n with | 0 => false | n + 1 => okL n xs)
  | n, .fl xs => (match n with | 0 => false | n + 1 => okL n xs)
  | _, .par _ => false
  | _, .ref _ => false
  | _, .lam _ _ => false
def okL : Nat → List D → Bool
  | _, [] => true
  | n, d :: ds => okD n d && okL n ds
end
mutual
def D.eqb : D → D → Bool
  | .non, .non => true
  | .bl a, .bl b => decide (a = b)
  | .bl a, .int j => decide ((if a then 1 else 0) = j)
  | .int i, .bl b => decide (i = (if b then 1 else 0))
  | .int i, .int j => decide (i = j)
  | .str x, .str y => decide (x = y)
  | .fl xs, .fl ys => eqbL xs ys
  | .tup xs, .tup ys => eqbL xs ys
  | _, _ => false
def eqbL : List D → List D → Bool
  | [], [] => true
  | x :: xs, y :: ys => D.eqb x y && eqbL xs ys
  | _, _ => false
end
mutual
def D.pd : D → PyData
  | .non => .none
  | .bl b => .bool b
  | .int i => .int i
  | .str s => .str s
  | .tup xs => .tuple (pdL xs)
  | .fl xs => .list (pdL xs)
  | .par _ => .none
  | .ref _ => .none
  | .lam _ _ => .none
def pdL : List D → List PyData
  | [] => []
  | d :: ds => d.pd :: pdL ds
end
section
variable {K : PySem.W.Frag} {ι : List Addr} {H : Hp}
mutual
theorem RV.dp : ∀ {d : D} {v : V} {n : Nat}, RV K ι H d v → okD n d = true → Dp K H v d.pd
  | _, _, _, .non, _ => by rw [D.pd]; exact .non
  | _, _, _, .bl b, _ => by rw [D.pd]; exact .bl b
  | _, _, _, .int i, _ => by rw [D.pd]; exact .int i
  | _, _, _, .str s, _ => by rw [D.pd]; exact .str s
  | _, _, 0, .tup h r, e => by simp [okD] at e
  | _, _, n + 1, .tup h r, e => by rw [D.pd]; rw [okD] at e; exact .tup h.sq (RVs.dp r e)
  | _, _, 0, .fl h r, e => by simp [okD] at e
  | _, _, n + 1, .fl h r, e => by rw [D.pd]; rw [okD] at e; exact .lst h.sq (RVs.dp r e)
  | _, _, _, .par h r, e => by simp [okD] at e
  | _, _, _, .ref h, e => by simp [okD] at e
  | _, _, _, .lam h r, e => by simp [okD] at e
theorem RVs.dp : ∀ {ds : List D} {vs : List V} {n : Nat}, RVs K ι H ds vs → okL n ds = true → DpAll K H vs (pdL ds)
  | _, _, _, .nil, _ => by rw [pdL]; exact .nil
  | _, _, _, .cons h r, e => by
    rw [okL, Bool.and_eq_true] at e
    rw [pdL]
    exact .cons (RV.dp h e.1) (RVs.dp r e.2)
end
end
mutual
theorem pd_lay : ∀ (d : D) (n : Nat), okD n d = true → d.pd.canLay0 = true ∧ d.pd.depth ≤ n
  | .non, n, _ => by simp [D.pd, PyData.canLay0, PyData.depth]
  | .bl _, n, _ => by simp [D.pd, PyData.canLay0, PyData.depth]
  | .int _, n, _ => by simp [D.pd, PyData.canLay0, PyData.depth]
  | .str s, n, h => by simp only [okD] at h; simp [D.pd, PyData.canLay0, PyData.depth, h]
  | .tup xs, 0, h => by simp [okD] at h
  | .fl xs, 0, h => by simp [okD] at h
  | .tup xs, n + 1, h => by
    rw [okD] at h
    have q := pdL_lay xs n h
    simp only [D.pd, PyData.canLay0, PyData.depth]
    exact ⟨q.1, by omega⟩
  | .fl xs, n + 1, h => by
    rw [okD] at h
    have q := pdL_lay xs n h
    simp only [D.pd, PyData.canLay0, PyData.depth]
    exact ⟨q.1, by omega⟩
  | .par _, n, h => by simp [okD] at h
  | .ref _, n, h => by simp [okD] at h
  | .lam _ _, n, h => by simp [okD] at h
theorem pdL_lay : ∀ (ds : List D) (n : Nat), okL n ds = true → PyData.canLayAll0 (pdL ds) = true ∧ PyData.depthAll (pdL ds) ≤ n
  | [], n, _ => by simp [pdL, PyData.canLayAll0, PyData.depthAll]
  | d :: ds, n, h => by
    rw [okL, Bool.and_eq_true] at h
    have q1 := pd_lay d n h.1
    have q2 := pdL_lay ds n h.2
    simp only [pdL, PyData.canLayAll0, PyData.depthAll, q1.1, q2.1]
    exact ⟨rfl, by omega⟩
end
mutual
theorem pd_eqv : ∀ (a b : D) (n k : Nat), okD n a = true → okD k b = true → PyData.eqv a.pd b.pd = a.eqb b
  | .non, b, _, k, _, h => by cases b <;> first | (simp [okD] at h; done) | simp [D.pd, PyData.eqv, D.eqb]
  | .bl x, b, _, k, _, h => by cases b <;> first | (simp [okD] at h; done) | simp [D.pd, PyData.eqv, D.eqb, bdec]
  | .int x, b, _, k, _, h => by cases b <;> first | (simp [okD] at h; done) | simp [D.pd, PyData.eqv, D.eqb, bdec]
  | .str x, b, _, k, _, h => by cases b <;> first | (simp [okD] at h; done) | simp [D.pd, PyData.eqv, D.eqb, bdec]
  | .par _, b, _, k, h, _ => by simp [okD] at h
  | .ref _, b, _, k, h, _ => by simp [okD] at h
  | .lam _ _, b, _, k, h, _ => by simp [okD] at h
  | .tup xs, b, 0, k, h, _ => by simp [okD] at h
  | .fl xs, b, 0, k, h, _ => by simp [okD] at h
  | .tup xs, b, n + 1, k, h, h2 => by
    cases b with
    | tup ys =>
      cases k with
      | zero => simp [okD] at h2
      | succ k =>
        rw [okD] at h h2
        simp only [D.pd, PyData.eqv, D.eqb]
        exact pdL_eqv xs ys n k h h2
    | par _ => simp [okD] at h2
    | ref _ => simp [okD] at h2
    | lam _ _ => simp [okD] at h2
    | _ => simp [D.pd, PyData.eqv, D.eqb]
  | .fl xs, b, n + 1, k, h, h2 => by
    cases b with
    | fl ys =>
      cases k with
      | zero => simp [okD] at h2
      | succ k =>
        rw [okD] at h h2
        simp only [D.pd, PyData.eqv, D.eqb]
        exact pdL_eqv xs ys n k h h2
    | par _ => simp [okD] at h2
    | ref _ => simp [okD] at h2
    | lam _ _ => simp [okD] at h2
    | _ => simp [D.pd, PyData.eqv, D.eqb]
theorem pdL_eqv : ∀ (a b : List D) (n k : Nat), okL n a = true → okL k b = true → PyData.eqvAll (pdL a) (pdL b) = eqbL a b
  | [], [], _, _, _, _ => by simp [pdL, PyData.eqvAll, eqbL]
  | [], _ :: _, _, _, _, _ => by simp [pdL, PyData.eqvAll, eqbL]
  | _ :: _, [], _, _, _, _ => by simp [pdL, PyData.eqvAll, eqbL]
  | a :: as, b :: bs, n, k, h, h2 => by
    rw [okL, Bool.and_eq_true] at h h2
    simp only [pdL, PyData.eqvAll, eqbL, pd_eqv a b n k h.1 h2.1, pdL_eqv as bs n k h.2 h2.2]
end
theorem shaped_of {d : D} (h : okD 64 d = true) : SeqAt.shaped d.pd = true := by
  have q := pd_lay d 64 h
  unfold SeqAt.shaped
  rw [q.1, decide_eq_true q.2]
  rfl
/-- a thing as data: a list in the memory as what it holds -/
def form (x : Out) (m : Mem) : Option D := match x with
  | .v (.ref n) => (match m[n]? with | some (.lst a) => some (.fl a) | _ => none)
  | .o (.lst a) => some (.fl a)
  | .v d => some d
  | _ => none
theorem form_at {K : PySem.W.Frag} {ι : List Addr} {H H0 : Hp} {m : Mem} {x : Out} {v : V} {d : D} (rm : RM K ι H m) (ro : RO K H0 ι H x v) (h : form x m = some d) (ok : okD 64 d = true) : Dp K H v d.pd := by
  unfold form at h
  split at h
  · split at h
    · rename_i n _ ys hm
      cases h
      cases ro with
      | ref e =>
        obtain ⟨a, e1, vs, e2, r⟩ := rm.ob _ _ hm
        rw [e] at e1
        cases e1
        rw [okD] at ok
        rw [D.pd]
        exact .lst (.inl (.inl e2)) (r.dp ok)
    · cases h
  · cases h
    obtain ⟨p, e, _, _, vs, e2, r⟩ := ro
    subst e
    rw [okD] at ok
    rw [D.pd]
    exact .lst (.inl (.inl e2)) (r.dp ok)
  · cases h
    exact RV.dp ro ok
  · cases h
def eqF (x : Out) (y : Out) (m : Mem) : Option (Out × Mem) := (form x m).bind fun a => (form y m).bind fun b => if okD 64 a = true ∧ okD 64 b = true then some (.v (.bl (a.eqb b)), m) else none
def neF (x : Out) (y : Out) (m : Mem) : Option (Out × Mem) := (form x m).bind fun a => (form y m).bind fun b => if okD 64 a = true ∧ okD 64 b = true then some (.v (.bl (!a.eqb b)), m) else none
theorem eqU {K : PySem.W.Frag} : R2S K (rEqD K) eqF := by
  intro ι H H0 m x y z vx vy m' Q rm bd rx ry hf k
  obtain ⟨a, h1, hf⟩ := bind_some hf
  obtain ⟨b, h2, hf⟩ := bind_some hf
  split at hf
  · rename_i ok; cases hf
    exact ⟨_, _, form_at rm rx h1 ok.1, form_at rm ry h2 ok.2, shaped_of ok.1, shaped_of ok.2, by rw [pd_eqv a b 64 64 ok.1 ok.2]; exact k _ ι H (Le.refl _ _) rm (RV.bl _)⟩
  · cases hf
theorem neU {K : PySem.W.Frag} : R2S K (rNeD K) neF := by
  intro ι H H0 m x y z vx vy m' Q rm bd rx ry hf k
  obtain ⟨a, h1, hf⟩ := bind_some hf
  obtain ⟨b, h2, hf⟩ := bind_some hf
  split at hf
  · rename_i ok; cases hf
    exact ⟨_, _, form_at rm rx h1 ok.1, form_at rm ry h2 ok.2, shaped_of ok.1, shaped_of ok.2, by rw [pd_eqv a b 64 64 ok.1 ok.2]; exact k _ ι H (Le.refl _ _) rm (RV.bl _)⟩
  · cases hf
/-! ### is, is not: None, True, False -/
def isF (neg : Bool) (x : Out) (y : Out) (m : Mem) : Option (Out × Mem) := match y with
  | .v .non => (match x with
    | .v .non => some (.v (.bl (!neg)), m)
    | _ => some (.v (.bl neg), m))
  | .v (.bl b) => (match x with
    | .v (.bl a) => some (.v (.bl (if neg then !decide (a = b) else decide (a = b))), m)
    | _ => none)
  | _ => none
theorem op_isU {X : Cx} : OpR X (compareOp .Is) (fun x y H Q => (y = .non ∧ Q (.bl (decide (x = .non))) H) ∨ rIsB x y H Q) := op_isN.or op_isBl
theorem op_isNU {X : Cx} : OpR X (compareOp .IsNot) (fun x y H Q => (y = .non ∧ Q (.bl (!decide (x = .non))) H) ∨ rNotB x y H Q) := op_notN.or op_notBl
theorem ro_non {K : PySem.W.Frag} {ι : List Addr} {H H0 : Hp} {x : Out} {v : V} (ro : RO K H0 ι H x v) (h : x ≠ .v .non) : v ≠ .non := by
  intro e; subst e
  cases x with
  | v d => cases ro; exact h rfl
  | o b => obtain ⟨p, e, _⟩ := ro; cases e
theorem isU {K : PySem.W.Frag} : R2S K (fun x y H Q => (y = .non ∧ Q (.bl (decide (x = .non))) H) ∨ rIsB x y H Q) (isF false) := by
  intro ι H H0 m x y z vx vy m' Q rm bd rx ry hf k
  unfold isF at hf
  split at hf
  · cases ry
    split at hf
    · cases rx; cases hf
      exact .inl ⟨rfl, by simpa using k _ ι H (Le.refl _ _) rm (RV.bl _)⟩
    · rename_i hn; cases hf
      refine .inl ⟨rfl, ?_⟩
      rw [decide_eq_false (ro_non rx fun e => hn e)]
      exact k _ ι H (Le.refl _ _) rm (RV.bl _)
  · cases ry
    split at hf
    · cases rx; cases hf
      exact .inr ⟨_, _, rfl, rfl, k _ ι H (Le.refl _ _) rm (RV.bl _)⟩
    · cases hf
  · cases hf
theorem isNU {K : PySem.W.Frag} : R2S K (fun x y H Q => (y = .non ∧ Q (.bl (!decide (x = .non))) H) ∨ rNotB x y H Q) (isF true) := by
  intro ι H H0 m x y z vx vy m' Q rm bd rx ry hf k
  unfold isF at hf
  split at hf
  · cases ry
    split at hf
    · cases rx; cases hf
      exact .inl ⟨rfl, by simpa using k _ ι H (Le.refl _ _) rm (RV.bl _)⟩
    · rename_i hn; cases hf
      refine .inl ⟨rfl, ?_⟩
      rw [decide_eq_false (ro_non rx fun e => hn e)]
      exact k _ ι H (Le.refl _ _) rm (RV.bl _)
  · cases ry
    split at hf
    · cases rx; cases hf
      exact .inr ⟨_, _, rfl, rfl, k _ ι H (Le.refl _ _) rm (RV.bl _)⟩
    · cases hf
  · cases hf
@[simp] theorem add_int (i j : Int) (m : Mem) : addF (.v (.int i)) (.v (.int j)) m = some (.v (.int (i + j)), m) := rfl
@[simp] theorem sub_int (i j : Int) (m : Mem) : subF (.v (.int i)) (.v (.int j)) m = some (.v (.int (i - j)), m) := rfl
@[simp] theorem mod_int (i j : Int) (m : Mem) : modF (.v (.int i)) (.v (.int j)) m = if 0 < j then some (.v (.int (i % j)), m) else none := rfl
@[simp] theorem div_int (i j : Int) (m : Mem) : divF (.v (.int i)) (.v (.int j)) m = if divOk j then some (.v (.int (i / j)), m) else none := rfl
@[simp] theorem mul_int (i j : Int) (m : Mem) : mulF (.v (.int i)) (.v (.int j)) m = if mulOk i j then some (.v (.int (i * j)), m) else none := rfl
@[simp] theorem pow_30 (m : Mem) : powF (.v (.int 10)) (.v (.int 30)) m = some (.v (.int 1000000000000000000000000000000), m) := by
  simp only [powF]; rw [if_pos (show powOk _ _ from ⟨by decide, by decide, by decide⟩)]; rfl
@[simp] theorem pow_18 (m : Mem) : powF (.v (.int 10)) (.v (.int 18)) m = some (.v (.int 1000000000000000000), m) := by
  simp only [powF]; rw [if_pos (show powOk _ _ from ⟨by decide, by decide, by decide⟩)]; rfl
@[simp] theorem pow_20 (m : Mem) : powF (.v (.int 10)) (.v (.int 20)) m = some (.v (.int 100000000000000000000), m) := by
  simp only [powF]; rw [if_pos (show powOk _ _ from ⟨by decide, by decide, by decide⟩)]; rfl
@[simp] theorem neg_int (i : Int) (m : Mem) : negF (.v (.int i)) m = some (.v (.int (-i)), m) := rfl
@[simp] theorem cmp_int (p : Int → Int → Bool) (i j : Int) (m : Mem) : cmpF p (.v (.int i)) (.v (.int j)) m = some (.v (.bl (p i j)), m) := rfl
@[simp] theorem is_bl (n a b : Bool) (m : Mem) : isF n (.v (.bl a)) (.v (.bl b)) m = some (.v (.bl (if n then !decide (a = b) else decide (a = b))), m) := rfl
@[simp] theorem is_nn (n : Bool) (m : Mem) : isF n (.v .non) (.v .non) m = some (.v (.bl (!n)), m) := rfl
@[simp] theorem is_in (n : Bool) (i : Int) (m : Mem) : isF n (.v (.int i)) (.v .non) m = some (.v (.bl n), m) := rfl
@[simp] theorem is_tn (n : Bool) (i : List D) (m : Mem) : isF n (.v (.tup i)) (.v .non) m = some (.v (.bl n), m) := rfl
@[simp] theorem is_sn (n : Bool) (i : Str) (m : Mem) : isF n (.v (.str i)) (.v .non) m = some (.v (.bl n), m) := rfl
end Q
namespace Q
open PySem L2

theorem pe_or2 {X : Cx} {e : Expr} {t u : TE} (h : PE X e t) (h2 : PE X e u) : PE X e (fun σ H Q => t σ H Q ∨ u σ H Q) := ⟨fun pins s σ H Q I q => q.elim (h.run pins s σ H Q I) (h2.run pins s σ H Q I)⟩
theorem pi_or2 {X : Cx} {tg e : Expr} {t u : TI} (h : PI X tg e t) (h2 : PI X tg e u) : PI X tg e (fun σ H Q => t σ H Q ∨ u σ H Q) := ⟨fun pins s σ H Q I q => q.elim (h.run pins s σ H Q I) (h2.run pins s σ H Q I)⟩
theorem ps_or2 {X : Cx} {e : Stmt} {t u : TS} (h : PS X e t) (h2 : PS X e u) : PS X e (fun D σ H => t D σ H ∨ u D σ H) := ⟨fun pins s σ H D I q => q.elim (h.run pins s σ H D I) (h2.run pins s σ H D I)⟩

/-! ### items -/
noncomputable def ixF (x : Out) (y : Out) (m : Mem) : Option (Out × Mem) := match y with
  | .v (.int i) => (match x with
    | .v (.str z) => if fits z.length then (atI z.cps.toList i).map fun c => (.v (.str ⟨#[c]⟩), m) else none
    | x => (seqOf x m).bind fun xs => (atI xs i).map fun d => (.v d, m))
  | _ => none
theorem RVs.atI {K : PySem.W.Frag} {ι : List Addr} {H : Hp} {ds : List D} {vs : List V} {i : Int} {d : D} (r : RVs K ι H ds vs) (h : L2.atI ds i = some d) : ∃ v, L2.atI vs i = some v ∧ RV K ι H d v := by
  unfold L2.atI at h ⊢
  rw [← r.length]
  obtain ⟨j, e, h⟩ := bind_some h
  obtain ⟨v, e1, e2⟩ := r.get h
  exact ⟨v, by rw [e]; exact e1, e2⟩
theorem ixU {K : PySem.W.Frag} : R2S K (rIx K) ixF := by
  intro ι H H0 m x y z vx vy m' Q rm bd rx ry hf k
  unfold ixF at hf
  split at hf
  · cases ry
    split at hf
    · split at hf
      · rename_i hl
        obtain ⟨c, h1, h2⟩ := Option.map_eq_some_iff.mp hf
        cases h2; cases rx
        exact .inr (.inr ⟨_, _, c, rfl, rfl, hl, h1, k _ ι H (Le.refl _ _) rm (RV.str _)⟩)
      · cases hf
    · obtain ⟨xs, h1, hf⟩ := bind_some hf
      obtain ⟨d, h2, h3⟩ := Option.map_eq_some_iff.mp hf
      cases h3
      obtain ⟨a, vs, rfl, hs, r⟩ := seq_at rm rx h1
      obtain ⟨v, e1, e2⟩ := r.atI h2
      rcases hs with hs | hs
      · exact .inl ⟨_, _, _, _, rfl, rfl, hs, e1, k _ ι H (Le.refl _ _) rm e2⟩
      · exact .inr (.inl ⟨_, _, _, _, rfl, rfl, hs, e1, k _ ι H (Le.refl _ _) rm e2⟩)
  · cases hf
/-! ### slices -/
abbrev O := Env → Mem → Option (Option Int × Mem)
@[simp] def oNone (_ : Env) (m : Mem) : Option (Option Int × Mem) := some (none, m)
@[simp] def oSome (e : E) (ρ : Env) (m : Mem) : Option (Option Int × Mem) := (e ρ m).bind fun x => match x.1 with | .v (.int i) => some (some i, x.2) | _ => none
def tO (K : PySem.W.Frag) (f : O) : TO := fun σ H Q => ∃ ι ρ m r m', RS K ι H σ ρ ∧ RM K ι H m ∧ f ρ m = some (r, m') ∧ ∀ ι' H', Le ι H ι' H' → RM K ι' H' m' → Q r H'
theorem so_none {X : Cx} : PO X none (tO X.K oNone) := ⟨fun pins s σ H Q I h => by
  obtain ⟨ι, ρ, m, r, m', rs, rm, hf, k⟩ := h
  cases hf
  exact po_none.run pins s σ H Q I (k ι H (Le.refl _ _) rm)⟩
theorem so_some {X : Cx} {e : Expr} {fa : E} (h : SE X e fa) : PO X (some e) (tO X.K (oSome fa)) := ⟨fun pins s σ H Q I hh => by
  obtain ⟨ι, ρ, m, r, m', rs, rm, hf, k⟩ := hh
  obtain ⟨x, h1, hf⟩ := bind_some hf
  refine (po_some h).run pins s σ H Q I ⟨ι, ρ, m, x.1, x.2, rs, rm, h1, fun v ι1 H1 l1 rm1 ro1 bd1 => ?_⟩
  split at hf
  · rename_i e1; rw [e1] at ro1; cases ro1; cases hf
    exact ⟨_, rfl, k ι1 H1 l1 rm1⟩
  · cases hf⟩
def cutD (xs : List D) (lo hi : Option Int) : List D := (xs.drop (HT.sIx xs.length 0 lo)).take (HT.sIx xs.length xs.length hi - HT.sIx xs.length 0 lo)
theorem RVs.cut {K : PySem.W.Frag} {ι : List Addr} {H : Hp} {ds : List D} {vs : List V} {lo hi : Option Int} (r : RVs K ι H ds vs) : RVs K ι H (cutD ds lo hi) (cutV vs lo hi) := by
  unfold cutD cutV
  rw [r.length]
  exact (r.drop _).take _
noncomputable def slF (x : Out) (lo hi : Option Int) (m : Mem) : Option (Out × Mem) := match x with
  | .v (.str z) => if fits z.length then some (.v (.str (cutS z lo hi)), m) else none
  | .v (.tup xs) => some (.v (.tup (cutD xs lo hi)), m)
  | x => (seqOf x m).bind fun xs => some (.o (.lst (cutD xs lo hi)), m)
@[simp] noncomputable def eSl (a : E) (lo hi : O) (ρ : Env) (m : Mem) : Option (Out × Mem) := (a ρ m).bind fun x => (lo ρ x.2).bind fun l => (hi ρ l.2).bind fun h => slF x.1 l.1 h.1 h.2
theorem sq_cases {K : PySem.W.Frag} {ι : List Addr} {H H0 : Hp} {m : Mem} {x : Out} {v : V} {xs : List D} (rm : RM K ι H m) (ro : RO K H0 ι H x v) (h : seqOf x m = some xs) (hx : ∀ ys, x ≠ .v (.tup ys)) : ∃ a vs, v = .ref a ∧ SqL K H a vs ∧ RVs K ι H xs vs := by
  unfold seqOf at h
  split at h
  · rename_i ys; exact absurd rfl (hx ys)
  · cases h
    cases ro with
    | fl hs r => exact ⟨_, _, rfl, hs.sq, r⟩
  · split at h
    · rename_i n _ ys hm
      cases h
      cases ro with
      | ref e =>
        obtain ⟨a, e1, vs, e2, r⟩ := rm.ob _ _ hm
        rw [e] at e1
        cases e1
        exact ⟨_, vs, rfl, .inl (.inl e2), r⟩
    · cases h
  · cases h
    obtain ⟨p, e, _, _, vs, e2, r⟩ := ro
    exact ⟨p, vs, e, .inl (.inl e2), r⟩
  · cases h
theorem se_slice {X : Cx} {e : Expr} {a : Expr} {lo hi : Option Expr} {pos p2 : Pos} {fa : E} {fl fh : O} (ha : SE X a fa) (hl : PO X lo (tO X.K fl)) (hh : PO X hi (tO X.K fh))
    (h0 : PE X e (tSl (fun x lo hi H Q => (rSlL X.K x lo hi H Q ∨ rSlN X.K x lo hi H Q) ∨ rSlS x lo hi H Q) (tE X.K fa) (tO X.K fl) (tO X.K fh))) : SE X e (eSl fa fl fh) := pe_imp h0 fun σ H Q ⟨ι, ρ, m, z, m', rs, rm, hf, k⟩ => by
  obtain ⟨x, h1, hf⟩ := bind_some hf
  obtain ⟨l, h2, hf⟩ := bind_some hf
  obtain ⟨h, h3, hf⟩ := bind_some hf
  refine ⟨ι, ρ, m, x.1, x.2, rs, rm, h1, fun v ι1 H1 l1 rm1 ro1 bd1 => ?_⟩
  refine ⟨ι1, ρ, x.2, l.1, l.2, rs.mono l1, rm1, h2, fun ι2 H2 l2 rm2 => ?_⟩
  refine ⟨ι2, ρ, l.2, h.1, h.2, (rs.mono l1).mono l2, rm2, h3, fun ι3 H3 l3 rm3 => ?_⟩
  have l03 := l1.tr rm1 (l2.tr rm2 l3)
  have ro3 := (ro1.mono l2).mono l3
  unfold slF at hf
  split at hf
  · rename_i e1
    rw [e1] at ro3
    split at hf
    · rename_i hz; cases hf; cases ro3
      exact .inr ⟨_, rfl, hz, fun bd => k _ ι3 H3 l03 rm3 (RV.str _) bd⟩
    · cases hf
  · rename_i e1
    rw [e1] at ro3
    cases hf
    cases ro3 with
    | tup hs r =>
      refine .inl (.inr ⟨_, _, rfl, hs.sq, fun hw bd => ?_, fun _ p o hp ho bd => ?_⟩)
      · refine k _ ι3 H3 l03 rm3 (RV.tup hs ?_) bd
        have e2 := r.cut (lo := l.1) (hi := h.1)
        unfold cutV at e2
        rw [hw.1, hw.2, List.drop_zero, Nat.sub_zero, List.take_length] at e2
        exact e2
      · exact k _ ι3 _ (l03.tr rm3 (Le.newAt hp)) (rm3.newAt hp) (new_tup hp ho r.cut) bd
  · rename_i y hy1 hy2
    obtain ⟨xs, h4, hf⟩ := bind_some hf
    cases hf
    obtain ⟨a, vs, rfl, hs, r⟩ := sq_cases rm3 ro3 h4 hy2
    exact .inl (.inl ⟨_, _, rfl, hs, fun p hp bd => k _ ι3 _ (l03.tr rm3 (Le.newAt hp)) (rm3.newAt hp) ((new_lst rm3 hp r.cut).from l03 rm3) bd⟩)
/-! ### built-in functions of one and two things -/
section
variable {X : Cx} {e a b : Expr} {fa fb : E} {f : F1} {f2 : F2} {r : List V → Hp → VK → Prop}
theorem se_b1 (h0 : PE X e (tCB r (tCons (tE X.K fa) tNil))) (hr : R1S X.K (fun v H Q => r [v] H Q) f) : SE X e (eUn f fa) := pe_imp h0 fun σ H Q ⟨ι, ρ, m, z, m', rs, rm, hf, k⟩ => by
  obtain ⟨x, h1, hf⟩ := bind_some hf
  refine ⟨ι, ρ, m, x.1, x.2, rs, rm, h1, fun v ι1 H1 l1 rm1 ro1 bd1 => ?_⟩
  exact hr ι1 H1 H x.2 x.1 z v m' _ rm1 bd1 ro1 hf fun w ι3 H3 l3 rm3 ro3 bd3 => k w ι3 H3 (l1.tr rm1 l3) rm3 (ro3.from l1 rm1) bd3
theorem se_b2 (h0 : PE X e (tCB r (tCons (tE X.K fa) (tCons (tE X.K fb) tNil)))) (hr : R2S X.K (fun v u H Q => r [v, u] H Q) f2) : SE X e (eBin f2 fa fb) := pe_imp h0 fun σ H Q ⟨ι, ρ, m, z, m', rs, rm, hf, k⟩ => by
  obtain ⟨x, h1, hf⟩ := bind_some hf
  obtain ⟨y, h2, hf⟩ := bind_some hf
  refine ⟨ι, ρ, m, x.1, x.2, rs, rm, h1, fun v ι1 H1 l1 rm1 ro1 bd1 => ?_⟩
  refine ⟨ι1, ρ, x.2, y.1, y.2, rs.mono l1, rm1, h2, fun u ι2 H2 l2 rm2 ro2 bd2 => ?_⟩
  exact hr ι2 H2 H y.2 x.1 y.1 z v u m' _ rm2 bd2 (ro1.mono l2) (ro2.from l1 rm1) hf fun w ι3 H3 l3 rm3 ro3 bd3 => k w ι3 H3 (l1.tr rm1 (l2.tr rm2 l3)) rm3 (ro3.from (l1.tr rm1 l2) rm2) bd3
end
noncomputable def lenF (x : Out) (m : Mem) : Option (Out × Mem) := match x with
  | .v (.str z) => if fits z.length then some (.v (.int z.length), m) else none
  | x => (seqOf x m).bind fun xs => some (.v (.int xs.length), m)
def rLenU (K : PySem.W.Frag) : List V → Hp → VK → Prop := fun xs H Q => (∃ p ys, xs = [.ref p] ∧ (SqL K H p ys ∨ SqT K H p ys) ∧ Q (.int ys.length) H) ∨ (∃ z, xs = [.str z] ∧ z.length ≤ sizeLine ∧ Q (.int z.length) H)
theorem call_lenU {X : Cx} : CallR X (.builtin "len") (rLenU X.K) := call_len_seq.or call_len_str
theorem lenU {K : PySem.W.Frag} : R1S K (fun v H Q => rLenU K [v] H Q) lenF := by
  intro ι H H0 m x z vx m' Q rm bd rx hf k
  unfold lenF at hf
  split at hf
  · split at hf
    · rename_i hl; cases hf; cases rx
      exact .inr ⟨_, rfl, hl, k _ ι H (Le.refl _ _) rm (RV.int _)⟩
    · cases hf
  · obtain ⟨xs, h1, hf⟩ := bind_some hf
    cases hf
    obtain ⟨a, vs, rfl, hs, r⟩ := seq_at rm rx h1
    rw [r.length] at k
    exact .inl ⟨_, _, rfl, hs, k _ ι H (Le.refl _ _) rm (RV.int _)⟩
def absF (x : Out) (m : Mem) : Option (Out × Mem) := match x with
  | .v (.int i) => some (.v (.int (if i < 0 then -i else i)), m)
  | _ => none
theorem absU {K : PySem.W.Frag} : R1S K (fun v H Q => (fun xs H (Q : VK) => ∃ i, xs = [V.int i] ∧ Q (.int (if i < 0 then -i else i)) H) [v] H Q) absF := by
  intro ι H H0 m x z vx m' Q rm bd rx hf k
  unfold absF at hf
  split at hf
  · cases hf; cases rx
    exact ⟨_, rfl, k _ ι H (Le.refl _ _) rm (RV.int _)⟩
  · cases hf
def intF (x : Out) (m : Mem) : Option (Out × Mem) := match x with
  | .v (.int i) => some (.v (.int i), m)
  | .v (.bl b) => some (.v (.int (if b then 1 else 0)), m)
  | _ => none
theorem intU {K : PySem.W.Frag} : R1S K (fun v H Q => (fun xs H (Q : VK) => (∃ i, xs = [V.int i] ∧ Q (.int i) H) ∨ ∃ k, xs = [V.bl k] ∧ Q (.int (if k then 1 else 0)) H) [v] H Q) intF := by
  intro ι H H0 m x z vx m' Q rm bd rx hf k
  unfold intF at hf
  split at hf
  · cases hf; cases rx
    exact .inl ⟨_, rfl, k _ ι H (Le.refl _ _) rm (RV.int _)⟩
  · cases hf; cases rx
    exact .inr ⟨_, rfl, k _ ι H (Le.refl _ _) rm (RV.int _)⟩
  · cases hf
def listF (x : Out) (m : Mem) : Option (Out × Mem) := (seqOf x m).bind fun xs => some (.o (.lst xs), m)
theorem listU {K : PySem.W.Frag} : R1S K (fun v H Q => (fun xs H (Q : VK) => ∃ p ys, xs = [V.ref p] ∧ (SqL K H p ys ∨ SqT K H p ys) ∧ ∀ l, H l = none → Q (.ref l) (upd H l (.lst ys))) [v] H Q) listF := by
  intro ι H H0 m x z vx m' Q rm bd rx hf k
  obtain ⟨xs, h1, hf⟩ := bind_some hf
  cases hf
  obtain ⟨a, vs, rfl, hs, r⟩ := seq_at rm rx h1
  exact ⟨_, _, rfl, hs, fun p hp => k _ ι _ (Le.newAt hp) (rm.newAt hp) (new_lst rm hp r)⟩
def tupF (x : Out) (m : Mem) : Option (Out × Mem) := (seqOf x m).bind fun xs => some (.v (.tup xs), m)
theorem tupU {K : PySem.W.Frag} : R1S K (fun v H Q => (fun xs H (Q : VK) => ∃ p ys, xs = [V.ref p] ∧ ((SqL K H p ys ∧ TpN H ys Q) ∨ (SqT K H p ys ∧ Q (.ref p) H))) [v] H Q) tupF := by
  intro ι H H0 m x z vx m' Q rm bd rx hf k
  obtain ⟨xs, h1, hf⟩ := bind_some hf
  cases hf
  rcases seq_at2 rm rx h1 with ⟨a, vs, rfl, hs, r⟩ | ⟨a, vs, rfl, hs, r⟩
  · exact ⟨_, _, rfl, .inl ⟨hs, fun p o hp ho => k _ ι _ (Le.newAt hp) (rm.newAt hp) (new_tup hp ho r)⟩⟩
  · exact ⟨_, _, rfl, .inr ⟨hs.sq, k _ ι H (Le.refl _ _) rm (RV.tup hs r)⟩⟩
/-- a list of truths -/
def blsOf : List D → Option (List Bool)
  | [] => some []
  | .bl b :: r => (blsOf r).map (b :: ·)
  | _ => none
theorem blsOf_eq : ∀ {xs : List D} {bs : List Bool}, blsOf xs = some bs → xs = bs.map D.bl
  | [], bs, h => by cases h; rfl
  | d :: r, bs, h => by
    cases d with
    | bl b =>
      rw [blsOf] at h
      obtain ⟨cs, h1, h2⟩ := Option.map_eq_some_iff.mp h
      rw [← h2, blsOf_eq h1]; rfl
    | _ => simp [blsOf] at h
theorem blsOf_map (bs : List Bool) : blsOf (bs.map D.bl) = some bs := by
  induction bs with
  | nil => rfl
  | cons b r ih => simp [blsOf, ih]
def allF (x : Out) (m : Mem) : Option (Out × Mem) := (lstOf x m).bind fun xs => (blsOf xs).bind fun bs => some (.v (.bl (bs.all id)), m)
def anyF (x : Out) (m : Mem) : Option (Out × Mem) := (lstOf x m).bind fun xs => (blsOf xs).bind fun bs => some (.v (.bl (bs.any id)), m)
theorem allU {K : PySem.W.Frag} : R1S K (fun v H Q => rAll K [v] H Q) allF := by
  intro ι H H0 m x z vx m' Q rm bd rx hf k
  obtain ⟨xs, h1, hf⟩ := bind_some hf
  obtain ⟨bs, h2, hf⟩ := bind_some hf
  cases hf
  obtain ⟨a, vs, rfl, hs, r⟩ := lst_at rm rx h1
  rw [blsOf_eq h2] at r
  rw [r.of_bls] at hs
  exact ⟨_, bs, rfl, .inl (.inl hs), k _ ι H (Le.refl _ _) rm (RV.bl _)⟩
theorem anyU {K : PySem.W.Frag} : R1S K (fun v H Q => rAny K [v] H Q) anyF := by
  intro ι H H0 m x z vx m' Q rm bd rx hf k
  obtain ⟨xs, h1, hf⟩ := bind_some hf
  obtain ⟨bs, h2, hf⟩ := bind_some hf
  cases hf
  obtain ⟨a, vs, rfl, hs, r⟩ := lst_at rm rx h1
  rw [blsOf_eq h2] at r
  rw [r.of_bls] at hs
  exact ⟨_, bs, rfl, .inl (.inl hs), k _ ι H (Le.refl _ _) rm (RV.bl _)⟩
/-! ### isinstance -/
inductive Ty where
  | int | bool | tuple | str | list | dict
def Ty.nm : Ty → String
  | .int => "int" | .bool => "bool" | .tuple => "tuple" | .str => "str" | .list => "list" | .dict => "dict"
/-- the type's name of a thing -/
def tyOf (x : Out) (m : Mem) : Option String := match x with
  | .v .non => some "NoneType"
  | .v (.bl _) => some "bool"
  | .v (.int _) => some "int"
  | .v (.str _) => some "str"
  | .v (.tup _) => some "tuple"
  | .v (.par _) => none
  | .v (.fl _) => some "list"
  | .v (.ref n) => (match m[n]? with | some (.lst _) => some "list" | some (.dct _) => some "dict" | _ => none)
  | .o (.lst _) => some "list"
  | .o (.dct _) => some "dict"
  | .o (.dcr _) => none
  | .o (.tab _) => none
  | .v (.lam _ _) => none
def isiB : Ty → String → Bool
  | .int, "int" => true
  | .int, "bool" => true
  | .bool, "bool" => true
  | .tuple, "tuple" => true
  | .str, "str" => true
  | .list, "list" => true
  | .dict, "dict" => true
  | _, _ => false
def isiF (t : Ty) (x : Out) (m : Mem) : Option (Out × Mem) := (tyOf x m).bind fun s => some (.v (.bl (isiB t s)), m)
theorem tyOf_at {K : PySem.W.Frag} {ι : List Addr} {H H0 : Hp} {m : Mem} {x : Out} {v : V} {s : String} (rm : RM K ι H m) (ro : RO K H0 ι H x v) (h : tyOf x m = some s) : TyX K H v (.type s) ∧ (s = "NoneType" ∨ s = "bool" ∨ s = "int" ∨ s = "str" ∨ s = "tuple" ∨ s = "list" ∨ s = "dict") := by
  have tupT : ∀ {a : Addr} {vs : List V}, SqT K H a vs → TyX K H (.ref a) (.type "tuple") := fun {a vs} h => by
    rcases h with (h | ⟨o, h⟩) | ⟨o, its, n, h1, h2, _⟩
    · exact .base (.tup h)
    · exact .fTuple h
    · exact .kTuple h1 h2
  have flT : ∀ {a : Addr} {vs : List V}, FlAt K H a vs → TyX K H (.ref a) (.type "list") := fun {a vs} h => by
    rcases h with ⟨o, h⟩ | ⟨o, its, n, h1, h2, _⟩
    · exact .base (.frz h)
    · exact .kList h1 h2
  have rbL : ∀ {xs : List D} {a : Addr}, RB K ι H (.lst xs) a → TyX K H (.ref a) (.type "list") := fun {b a} h => by
    obtain ⟨vs, e, _⟩ := h; exact .base (.lst e)
  have rbT : ∀ {xs : List (D × D)} {a : Addr}, RB K ι H (.dct xs) a → TyX K H (.ref a) (.type "dict") := fun {b a} h => by
    obtain ⟨vs, e, _⟩ := h; exact .base (.dK e)
  unfold tyOf at h
  split at h
  · cases h; cases ro; exact ⟨.base .non, by simp⟩
  · cases h; cases ro; exact ⟨.base (.bl _), by simp⟩
  · cases h; cases ro; exact ⟨.base (.int _), by simp⟩
  · cases h; cases ro; exact ⟨.base (.str _), by simp⟩
  · cases h
    cases ro with
    | tup hs r => exact ⟨tupT hs.sq, by simp⟩
  · cases h
  · cases h
    cases ro with
    | fl hs r => exact ⟨flT hs, by simp⟩
  · cases ro with
    | ref e =>
      split at h
      · rename_i hm; cases h
        obtain ⟨a, e1, rb⟩ := rm.ob _ _ hm
        rw [e] at e1; cases e1
        exact ⟨rbL rb, by simp⟩
      · rename_i hm; cases h
        obtain ⟨a, e1, rb⟩ := rm.ob _ _ hm
        rw [e] at e1; cases e1
        exact ⟨rbT rb, by simp⟩
      · cases h
  · cases h
    obtain ⟨p, e, _, _, rb⟩ := ro
    subst e
    exact ⟨rbL rb, by simp⟩
  · cases h
    obtain ⟨p, e, _, _, rb⟩ := ro
    subst e
    exact ⟨rbT rb, by simp⟩
  · cases h
  · cases h
  · cases h
theorem kit_all (K : PySem.W.Frag) (t : Ty) {s : String} (h : s = "NoneType" ∨ s = "bool" ∨ s = "int" ∨ s = "str" ∨ s = "tuple" ∨ s = "list" ∨ s = "dict") : PySem.W.kitOne K (.type s) (.type t.nm) = some (isiB t s) := by
  rcases h with h | h | h | h | h | h | h <;> subst h <;> cases t <;> exact kit_ty (by decide +kernel)
theorem se_isi {X : Cx} {e : Expr} {fa : E} {t : Ty} (h0 : PE X e (tCB (rIsi X.K) (tCons (tE X.K fa) (tCons (tC (.ty t.nm)) tNil)))) : SE X e (eUn (isiF t) fa) := pe_imp h0 fun σ H Q ⟨ι, ρ, m, z, m', rs, rm, hf, k⟩ => by
  obtain ⟨x, h1, hf⟩ := bind_some hf
  obtain ⟨s, h2, hf⟩ := bind_some hf
  cases hf
  refine ⟨ι, ρ, m, x.1, x.2, rs, rm, h1, fun v ι1 H1 l1 rm1 ro1 bd1 => ?_⟩
  obtain ⟨ty, hs⟩ := tyOf_at rm1 ro1 h2
  exact ⟨v, .ty t.nm, _, _, _, rfl, .ty _, ty, kit_all X.K t hs, fun bd => k _ ι1 H1 l1 rm1 (RV.bl _) bd⟩
@[simp] theorem abs_int (i : Int) (m : Mem) : absF (.v (.int i)) m = some (.v (.int (if i < 0 then -i else i)), m) := rfl
@[simp] theorem int_int (i : Int) (m : Mem) : intF (.v (.int i)) m = some (.v (.int i), m) := rfl
@[simp] theorem int_bl (b : Bool) (m : Mem) : intF (.v (.bl b)) m = some (.v (.int (if b then 1 else 0)), m) := rfl
end Q
namespace Q
open PySem L2

/-! ### what is walked -/
def signs (z : Str) : List D := z.cps.toList.map fun c => D.str ⟨#[c]⟩
noncomputable def srcOf (x : Out) (m : Mem) : Option Src := match x with
  | .v (.str z) => if fits z.length then some ⟨signs z, []⟩ else none
  | .v (.tup a) => some ⟨a, []⟩
  | .v (.fl a) => some ⟨a, []⟩
  | .v (.ref n) => (match m[n]? with | some (.lst a) => some ⟨a, [(n, .lst a)]⟩ | _ => none)
  | .o (.lst a) => some ⟨a, []⟩
  | _ => none
@[simp] noncomputable def iE (a : E) (ρ : Env) (m : Mem) : Option (Src × Mem) := (a ρ m).bind fun x => (srcOf x.1 x.2).bind fun s => some (s, x.2)
def upto (lo : Int) (n : Nat) : List D := (List.range n).map fun (i : Nat) => D.int (lo + (i : Int))
def rgOk (j : Int) : Prop := j ≤ 16777216 ∧ -(2 ^ 62) ≤ j
noncomputable instance (j : Int) : Decidable (rgOk j) := Classical.propDecidable _
@[simp] theorem rgOk_of {j : Int} (h : -1000000000 ≤ j) (h2 : j ≤ 16777216) : rgOk j := ⟨h2, by omega⟩
@[simp] noncomputable def iRg1 (a : E) (ρ : Env) (m : Mem) : Option (Src × Mem) := (a ρ m).bind fun x => match x.1 with
  | .v (.int j) => if rgOk j then some (⟨upto 0 j.toNat, []⟩, x.2) else none
  | _ => none
def rg2Ok (i j : Int) : Prop := j - i ≤ 16777216 ∧ -(2 ^ 62) ≤ i ∧ i < 2 ^ 62 ∧ -(2 ^ 62) ≤ j ∧ j < 2 ^ 62
noncomputable instance (i j : Int) : Decidable (rg2Ok i j) := Classical.propDecidable _
@[simp] theorem rg2Ok_of {i j : Int} (h : -1000000 ≤ i) (h1 : i ≤ 1000000) (h2 : -1000000 ≤ j) (h3 : j ≤ 1000000) : rg2Ok i j := ⟨by omega, by omega, by omega, by omega, by omega⟩
@[simp] noncomputable def iRg2 (a b : E) (ρ : Env) (m : Mem) : Option (Src × Mem) := (a ρ m).bind fun x => (b ρ x.2).bind fun y => match x.1, y.1 with
  | .v (.int i), .v (.int j) => if rg2Ok i j then some (⟨upto i (j - i).toNat, []⟩, y.2) else none
  | _, _ => none
section
variable {K : PySem.W.Frag} {ι : List Addr} {H : Hp} {m : Mem}
theorem upto_get {lo : Int} {n i : Nat} {d : D} (h : (upto lo n)[i]? = some d) : i < n ∧ d = .int (lo + i) := by
  unfold upto at h
  rw [List.getElem?_map] at h
  cases q : (List.range n)[i]? with
  | none => rw [q] at h; cases h
  | some j =>
    rw [q] at h
    have e := List.getElem?_eq_some_iff.mp q
    have h1 := e.1
    have h2 := e.2
    rw [List.getElem_range] at h2
    rw [List.length_range] at h1
    subst h2
    cases h
    exact ⟨h1, rfl⟩
theorem upto_len (lo : Int) (n : Nat) : (upto lo n).length = n := by simp [upto]
theorem walks_range (lo : Int) (n : Nat) : Walks K (Itr lo n) ⟨upto lo n, []⟩ ι H := by
  intro ι2 H2 m2 i l rm hc
  refine ⟨fun h => by rw [upto_len] at h; exact h, fun d hd => ?_⟩
  obtain ⟨h1, rfl⟩ := upto_get hd
  refine ⟨h1, fun x H3 hy => ?_⟩
  obtain ⟨rfl, rfl⟩ := hy
  exact ⟨Le.refl _ _, rm, .int _⟩
theorem walks_str (z : Str) : Walks K (Its z) ⟨signs z, []⟩ ι H := by
  intro ι2 H2 m2 i l rm hc
  refine ⟨fun h => by
    show z.cps.size ≤ i
    simpa [signs] using h, fun d hd => ?_⟩
  unfold signs at hd
  rw [List.getElem?_map] at hd
  cases q : z.cps.toList[i]? with
  | none => rw [q] at hd; cases hd
  | some c =>
    rw [q] at hd
    cases hd
    have hq : z.cps[i]? = some c := by rw [← Array.getElem?_toList]; exact q
    refine ⟨(Array.getElem?_eq_some_iff.mp hq).1, fun x H3 hy => ?_⟩
    obtain ⟨rfl, c', e1, rfl⟩ := hy
    rw [hq] at e1
    cases e1
    exact ⟨Le.refl _ _, rm, .str _⟩
/-- a list at a, known to hold vs wherever the lists stand -/
theorem walks_list {a : Addr} {ds : List D} {lv : List (Nat × Ob)} (h : ∀ ι2 H2 m2, Le ι H ι2 H2 → RM K ι2 H2 m2 → chk lv m2 → ∃ vs, SqL K H2 a vs ∧ RVs K ι2 H2 ds vs) : Walks K (Itl K a) ⟨ds, lv⟩ ι H := by
  intro ι2 H2 m2 i l rm hc
  obtain ⟨vs, hs, r⟩ := h ι2 H2 m2 l rm hc
  refine ⟨fun hl => ⟨vs, hs, by rw [← r.length]; exact hl⟩, fun d hd => ?_⟩
  obtain ⟨v, e1, e2⟩ := r.get hd
  refine ⟨⟨vs, v, hs, e1⟩, fun x H3 hy => ?_⟩
  obtain ⟨rfl, hy⟩ := hy
  have := hy vs hs
  rw [e1] at this
  cases this
  exact ⟨Le.refl _ _, rm, e2⟩
theorem walks_tuple {a : Addr} {vs : List V} {ds : List D} (hs : TpAt K H a vs) (r : RVs K ι H ds vs) : Walks K (Itt K a) ⟨ds, []⟩ ι H := by
  intro ι2 H2 m2 i l rm hc
  have hs2 := (l.k.rdT hs).sq
  have r2 := r.mono l
  refine ⟨fun hl => ⟨vs, hs2, by rw [← r.length]; exact hl⟩, fun d hd => ?_⟩
  obtain ⟨v, e1, e2⟩ := r2.get hd
  refine ⟨⟨vs, v, hs2, e1⟩, fun x H3 hy => ?_⟩
  obtain ⟨rfl, hy⟩ := hy
  have := hy vs hs2
  rw [e1] at this
  cases this
  exact ⟨Le.refl _ _, rm, e2⟩
end
theorem si_e {X : Cx} {tg e : Expr} {fa : E} (h : SE X e fa) : SI X tg e (iE fa) := pi_imp (pi_or2 (pi_or2 (pi_list h) (pi_tup h)) (pi_str h)) fun σ H R ⟨ι, ρ, m, s, m', rs, rm, hf, k⟩ => by
  obtain ⟨x, h1, hf⟩ := bind_some hf
  obtain ⟨s', h2, hf⟩ := bind_some hf
  cases hf
  unfold srcOf at h2
  have base : ∀ {T : TE} {P : V → Hp → Prop}, (∀ v ι1 H1, Le ι H ι1 H1 → RM X.K ι1 H1 x.2 → RO X.K H ι1 H1 x.1 v → Bnd X.K H1 → P v H1) → tE X.K fa σ H P := fun {T P} hP => ⟨ι, ρ, m, x.1, x.2, rs, rm, h1, hP⟩
  split at h2
  · rename_i e1
    split at h2
    · rename_i hz; cases h2
      refine .inr (base (T := tE X.K fa) fun v ι1 H1 l1 rm1 ro1 bd1 => ?_)
      rw [e1] at ro1; cases ro1
      exact ⟨_, rfl, fun bd => k _ ι1 H1 l1 rm1 (walks_str _) bd (by show (signs _).length ≤ _; unfold signs; rw [List.length_map, Array.length_toList]; exact hz)⟩
    · cases h2
  · rename_i e1; cases h2
    refine .inl (.inr (base (T := tE X.K fa) fun v ι1 H1 l1 rm1 ro1 bd1 => ?_))
    rw [e1] at ro1
    cases ro1 with
    | tup hs r => exact ⟨_, rfl, ⟨_, hs.sq⟩, fun bd => k _ ι1 H1 l1 rm1 (walks_tuple hs r) bd (by rw [show (_ : Src).items = _ from rfl, r.length]; exact bd _ _ (.inr hs.sq))⟩
  · rename_i e1; cases h2
    refine .inl (.inl (base (T := tE X.K fa) fun v ι1 H1 l1 rm1 ro1 bd1 => ?_))
    rw [e1] at ro1
    cases ro1 with
    | fl hs r => exact ⟨_, rfl, ⟨_, hs.sq⟩, fun bd => k _ ι1 H1 l1 rm1 (walks_list fun ι2 H2 m2 l2 rm2 _ => ⟨_, (l2.k.rdF hs).sq, r.mono l2⟩) bd (by rw [show (_ : Src).items = _ from rfl, r.length]; exact bd _ _ (.inl hs.sq))⟩
  · rename_i n e1
    split at h2
    · rename_i xs hm; cases h2
      refine .inl (.inl (base (T := tE X.K fa) fun v ι1 H1 l1 rm1 ro1 bd1 => ?_))
      rw [e1] at ro1
      cases ro1 with
      | ref e2 =>
        obtain ⟨a, e3, vs, e4, r⟩ := rm1.ob _ _ hm
        rw [e2] at e3; cases e3
        refine ⟨_, rfl, ⟨_, .inl (.inl e4)⟩, fun bd => k _ ι1 H1 l1 rm1 (walks_list fun ι2 H2 m2 l2 rm2 hc => ?_) bd (by rw [show (_ : Src).items = _ from rfl, r.length]; exact bd _ _ (.inl (.inl (.inl e4))))⟩
        have hm2 : m2[n]? = some (.lst xs) := hc (n, .lst xs) (by simp)
        obtain ⟨a', e5, vs', e6, r'⟩ := rm2.ob _ _ hm2
        rw [l2.ix e2] at e5; cases e5
        exact ⟨vs', .inl (.inl e6), r'⟩
    · cases h2
  · rename_i e1; cases h2
    refine .inl (.inl (base (T := tE X.K fa) fun v ι1 H1 l1 rm1 ro1 bd1 => ?_))
    rw [e1] at ro1
    obtain ⟨p, e2, e3, hi, vs, e4, r⟩ := ro1
    subst e2
    exact ⟨_, rfl, ⟨_, .inl (.inl e4)⟩, fun bd => k _ ι1 H1 l1 rm1 (walks_list fun ι2 H2 m2 l2 rm2 _ => ⟨_, .inl (.inl (l2.keep _ _ e4 (.inr hi))), r.mono l2⟩) bd (by rw [show (_ : Src).items = _ from rfl, r.length]; exact bd _ _ (.inl (.inl (.inl e4))))⟩
  · cases h2
theorem si_rg1 {X : Cx} {tg e : Expr} {fa : E} (h : PI X tg e (iRng1 (tCons (tE X.K fa) tNil))) : SI X tg e (iRg1 fa) := pi_imp h fun σ H R ⟨ι, ρ, m, s, m', rs, rm, hf, k⟩ => by
  obtain ⟨x, h1, hf⟩ := bind_some hf
  refine ⟨ι, ρ, m, x.1, x.2, rs, rm, h1, fun v ι1 H1 l1 rm1 ro1 bd1 => ?_⟩
  split at hf
  · rename_i j e1
    split at hf
    · rename_i hj; cases hf
      rw [e1] at ro1; cases ro1
      have hs : sizeLine = 16777216 := sizeLine_eq
      have hj1 := hj.1
      exact ⟨_, rfl, hj.2, by omega, fun bd => k _ ι1 H1 l1 rm1 (walks_range 0 _) bd (by show (upto 0 j.toNat).length ≤ _; rw [upto_len]; omega)⟩
    · cases hf
  · cases hf
theorem si_rg2 {X : Cx} {tg e : Expr} {fa fb : E} (h : PI X tg e (iRng2 (tCons (tE X.K fa) (tCons (tE X.K fb) tNil)))) : SI X tg e (iRg2 fa fb) := pi_imp h fun σ H R ⟨ι, ρ, m, s, m', rs, rm, hf, k⟩ => by
  obtain ⟨x, h1, hf⟩ := bind_some hf
  obtain ⟨y, h2, hf⟩ := bind_some hf
  refine ⟨ι, ρ, m, x.1, x.2, rs, rm, h1, fun v ι1 H1 l1 rm1 ro1 bd1 => ?_⟩
  refine ⟨ι1, ρ, x.2, y.1, y.2, rs.mono l1, rm1, h2, fun u ι2 H2 l2 rm2 ro2 bd2 => ?_⟩
  split at hf
  · rename_i i j e1 e2
    split at hf
    · rename_i hj; cases hf
      rw [e1] at ro1; cases ro1
      rw [e2] at ro2; cases ro2
      have hs : sizeLine = 16777216 := sizeLine_eq
      have hj1 := hj.1
      exact ⟨_, _, rfl, hj.2, fun bd => k _ ι2 H2 (l1.tr rm1 l2) rm2 (walks_range i _) bd (by show (upto i (j - i).toNat).length ≤ _; rw [upto_len]; omega)⟩
    · cases hf
  · cases hf
/-! ### methods of built-in types -/
def isTyB (T : String) (x : Out) (m : Mem) : Bool := match x with
  | .v (.str _) => T == "str"
  | .v (.fl _) => T == "list"
  | .v (.ref n) => (match m[n]? with | some (.lst _) => T == "list" | some (.dct _) => T == "dict" | _ => false)
  | .o (.lst _) => T == "list"
  | .o (.dct _) => T == "dict"
  | _ => false
@[simp] def eMt1 (T : String) (f : F2) (a b : E) (ρ : Env) (m : Mem) : Option (Out × Mem) := (a ρ m).bind fun x => if isTyB T x.1 x.2 = true then (b ρ x.2).bind fun y => f x.1 y.1 y.2 else none
@[simp] def eMt0 (T : String) (f : F1) (a : E) (ρ : Env) (m : Mem) : Option (Out × Mem) := (a ρ m).bind fun x => if isTyB T x.1 x.2 = true then f x.1 x.2 else none
theorem tyV_of {K : PySem.W.Frag} {ι : List Addr} {H H0 : Hp} {m : Mem} {x : Out} {v : V} {T : String} (rm : RM K ι H m) (ro : RO K H0 ι H x v) (h : isTyB T x m = true) : tyV K T v H := by
  have rbL : ∀ {xs : List D} {a : Addr}, RB K ι H (.lst xs) a → (T == "list") = true → tyV K T (.ref a) H := fun {b a} h ht => by
    obtain ⟨vs, e, _⟩ := h; exact .inl ⟨by simpa using ht, vs, .inl (.inl e)⟩
  have rbT : ∀ {xs : List (D × D)} {a : Addr}, RB K ι H (.dct xs) a → (T == "dict") = true → tyV K T (.ref a) H := fun {b a} h ht => by
    obtain ⟨vs, e, _⟩ := h; exact .inr (.inr (.inl ⟨by simpa using ht, .inl ⟨_, e⟩⟩))
  unfold isTyB at h
  split at h
  · cases ro; show T = "str"; simpa using h
  · cases ro with
    | fl hs r => exact .inl ⟨by simpa using h, _, hs.sq⟩
  · cases ro with
    | ref e =>
      split at h
      · rename_i hm
        obtain ⟨a, e1, rb⟩ := rm.ob _ _ hm
        rw [e] at e1; cases e1
        exact rbL rb h
      · rename_i hm
        obtain ⟨a, e1, rb⟩ := rm.ob _ _ hm
        rw [e] at e1; cases e1
        exact rbT rb h
      · cases h
  · obtain ⟨p, e, _, _, rb⟩ := ro
    subst e
    exact rbL rb h
  · obtain ⟨p, e, _, _, rb⟩ := ro
    subst e
    exact rbT rb h
  · cases h
/-- rules that may give a place to what is new: seen from the start -/
def R2N (K : PySem.W.Frag) (r : R2) (f : F2) : Prop := ∀ (ι0 : List Addr) (H0 : Hp) (ι : List Addr) (H : Hp) (m : Mem) (x y z : Out) (vx vy : V) (m' : Mem) (Q : VK), Le ι0 H0 ι H → RM K ι H m → Bnd K H → RO K H0 ι H x vx → RO K H0 ι H y vy → f x y m = some (z, m') →
  (∀ v ι' H', Le ι0 H0 ι' H' → RM K ι' H' m' → RO K H0 ι' H' z v → Q v H') → r vx vy H Q
theorem R2S.n {K : PySem.W.Frag} {r : R2} {f : F2} (h : R2S K r f) : R2N K r f := fun ι0 H0 ι H m x y z vx vy m' Q l rm bd rx ry hf k => h ι H H0 m x y z vx vy m' Q rm bd rx ry hf fun v ι' H' l' rm' ro' => k v ι' H' (l.tr rm l') rm' (ro'.from l rm)
section
variable {X : Cx} {e : Expr} {fa fb : E} {T : String} {f : F1} {f2 : F2} {r : V → List V → Hp → VK → Prop}
theorem se_mt1 (h0 : PE X e (tBM X.K T r (tE X.K fa) (tCons (tE X.K fb) tNil))) (hr : R2N X.K (fun v u H Q => r v [u] H Q) f2) : SE X e (eMt1 T f2 fa fb) := pe_imp h0 fun σ H Q ⟨ι, ρ, m, z, m', rs, rm, hf, k⟩ => by
  obtain ⟨x, h1, hf⟩ := bind_some hf
  split at hf
  · rename_i ht
    obtain ⟨y, h2, hf⟩ := bind_some hf
    refine ⟨ι, ρ, m, x.1, x.2, rs, rm, h1, fun v ι1 H1 l1 rm1 ro1 bd1 => ⟨tyV_of rm1 ro1 ht, ?_⟩⟩
    refine ⟨ι1, ρ, x.2, y.1, y.2, rs.mono l1, rm1, h2, fun u ι2 H2 l2 rm2 ro2 bd2 => ?_⟩
    exact hr ι H ι2 H2 y.2 x.1 y.1 z v u m' _ (l1.tr rm1 l2) rm2 bd2 (ro1.mono l2) (ro2.from l1 rm1) hf fun w ι3 H3 l3 rm3 ro3 bd3 => k w ι3 H3 l3 rm3 ro3 bd3
  · cases hf
theorem se_mt0 (h0 : PE X e (tBM0 X.K T r (tE X.K fa))) (hr : R1S X.K (fun v H Q => r v [] H Q) f) : SE X e (eMt0 T f fa) := pe_imp h0 fun σ H Q ⟨ι, ρ, m, z, m', rs, rm, hf, k⟩ => by
  obtain ⟨x, h1, hf⟩ := bind_some hf
  split at hf
  · rename_i ht
    refine ⟨ι, ρ, m, x.1, x.2, rs, rm, h1, fun v ι1 H1 l1 rm1 ro1 bd1 => ⟨tyV_of rm1 ro1 ht, ?_⟩⟩
    exact hr ι1 H1 H x.2 x.1 z v m' _ rm1 bd1 ro1 hf fun w ι3 H3 l3 rm3 ro3 bd3 => k w ι3 H3 (l1.tr rm1 l3) rm3 (ro3.from l1 rm1) bd3
  · cases hf
end
/-- xs.append(y) -/
noncomputable def appF (x : Out) (y : Out) (m : Mem) : Option (Out × Mem) := match x with
  | .v (.ref n) => (match m[n]? with
    | some (.lst xs) => if fits (xs.length + 1) then some (.v .non, (val y m).2.set n (.lst (xs ++ [(val y m).1]))) else none
    | _ => none)
  | _ => none
theorem mem_val {y : Out} {m : Mem} {n : Nat} {b : Ob} (h : m[n]? = some b) : (val y m).2[n]? = some b := by
  cases y with
  | v d => exact h
  | o c => show (m ++ [c])[n]? = some b; rw [List.getElem?_append_left (List.getElem?_eq_some_iff.mp h).1]; exact h
theorem RS.nil (K : PySem.W.Frag) (ι : List Addr) (H : Hp) : RS K ι H [] [] := ⟨rfl, fun i d h => by simp at h⟩
theorem appU {K : PySem.W.Frag} : R2N K (fun v u H Q => rAppend v [u] H Q) appF := by
  intro ι0 H0 ι H m x y z vx vy m' Q l rm bd rx ry hf k
  unfold appF at hf
  split at hf
  · split at hf
    · rename_i n xs hm
      split at hf
      · rename_i hl; cases hf
        cases rx with
        | ref e =>
          obtain ⟨a, e1, vs, e2, r⟩ := rm.ob _ _ hm
          rw [e] at e1; cases e1
          refine ⟨_, vs, vy, rfl, rfl, e2, by rw [← r.length]; exact hl, ?_⟩
          obtain ⟨ι2, l2, rm2, rv2, _, up, ups⟩ := ry.val l rm (RS.nil K ι H)
          cases up _ _ (RV.ref e) with
          | ref e' =>
            obtain ⟨l3, rm3⟩ := set_lst rm2 e' e2 ((ups _ _ r).append (.cons rv2 .nil))
            exact k _ ι2 _ (l2.tr rm2 l3) rm3 RV.non
      · cases hf
    · cases hf
  · cases hf
/-- xs.pop(i), xs.pop() -/
noncomputable def popF (x : Out) (y : Out) (m : Mem) : Option (Out × Mem) := match x, y with
  | .v (.ref n), .v (.int i) => (match m[n]? with
    | some (.lst xs) => if i63 i then (seqIndex? i xs.length).bind fun k => (xs[k]?).map fun d => (.v d, m.set n (.lst (xs.eraseIdx k))) else none
    | _ => none)
  | _, _ => none
theorem popU {K : PySem.W.Frag} : R2S K (fun v u H Q => rPopAt v [u] H Q) popF := by
  intro ι H H0 m x y z vx vy m' Q rm bd rx ry hf k
  unfold popF at hf
  split at hf
  · split at hf
    · rename_i n i _ xs hm
      split at hf
      · rename_i hi
        obtain ⟨kk, h1, hf⟩ := bind_some hf
        obtain ⟨d, h2, h3⟩ := Option.map_eq_some_iff.mp hf
        cases h3
        cases ry
        cases rx with
        | ref e =>
          obtain ⟨a, e1, vs, e2, r⟩ := rm.ob _ _ hm
          rw [e] at e1; cases e1
          obtain ⟨v, e3, e4⟩ := r.get h2
          obtain ⟨l3, rm3⟩ := set_lst rm e e2 (r.eraseIdx kk)
          exact ⟨_, vs, i, kk, v, rfl, rfl, e2, hi.1, hi.2, by rw [← r.length]; exact h1, e3, k _ ι _ l3 rm3 (RV.mono l3 e4)⟩
      · cases hf
    · cases hf
  · cases hf
def pop0F (x : Out) (m : Mem) : Option (Out × Mem) := match x with
  | .v (.ref n) => (match m[n]? with
    | some (.lst xs) => (xs[xs.length - 1]?).map fun d => (.v d, m.set n (.lst xs.dropLast))
    | _ => none)
  | _ => none
theorem RVs.dropLast {K : PySem.W.Frag} {ι : List Addr} {H : Hp} {ds : List D} {vs : List V} (r : RVs K ι H ds vs) : RVs K ι H ds.dropLast vs.dropLast := by
  rw [List.dropLast_eq_take, List.dropLast_eq_take, r.length]
  exact r.take _
theorem pop0U {K : PySem.W.Frag} : R1S K (fun v H Q => rPop v [] H Q) pop0F := by
  intro ι H H0 m x z vx m' Q rm bd rx hf k
  unfold pop0F at hf
  split at hf
  · split at hf
    · rename_i n xs hm
      obtain ⟨d, h2, h3⟩ := Option.map_eq_some_iff.mp hf
      cases h3
      cases rx with
      | ref e =>
        obtain ⟨a, e1, vs, e2, r⟩ := rm.ob _ _ hm
        rw [e] at e1; cases e1
        obtain ⟨v, e3, e4⟩ := r.get h2
        obtain ⟨l3, rm3⟩ := set_lst rm e e2 r.dropLast
        exact ⟨_, vs, v, rfl, rfl, e2, by rw [← r.length]; exact e3, k _ ι _ l3 rm3 (RV.mono l3 e4)⟩
    · cases hf
  · cases hf
/-- xs.extend(ys) -/
noncomputable def extF (x : Out) (y : Out) (m : Mem) : Option (Out × Mem) := match x with
  | .v (.ref n) => (match m[n]? with
    | some (.lst xs) => (lstOf y m).bind fun ys => if fits (xs.length + ys.length) then some (.v .non, m.set n (.lst (xs ++ ys))) else none
    | _ => none)
  | _ => none
theorem extU {K : PySem.W.Frag} : R2S K (fun v u H Q => rExtend v [u] H Q) extF := by
  intro ι H H0 m x y z vx vy m' Q rm bd rx ry hf k
  unfold extF at hf
  split at hf
  · split at hf
    · rename_i n xs hm
      obtain ⟨ys, h1, hf⟩ := bind_some hf
      split at hf
      · rename_i hl; cases hf
        obtain ⟨b, ws, rfl, hb, rb⟩ := lst_at rm ry h1
        cases rx with
        | ref e =>
          obtain ⟨a, e1, vs, e2, r⟩ := rm.ob _ _ hm
          rw [e] at e1; cases e1
          obtain ⟨l3, rm3⟩ := set_lst rm e e2 (r.append rb)
          exact ⟨_, _, vs, ws, rfl, rfl, e2, hb, by rw [← r.length, ← rb.length]; exact hl, k _ ι _ l3 rm3 RV.non⟩
      · cases hf
    · cases hf
  · cases hf
/-- sep.join(texts) -/
def strsOf : List D → Option (List Str)
  | [] => some []
  | .str b :: r => (strsOf r).map (b :: ·)
  | _ => none
theorem strsOf_eq : ∀ {xs : List D} {bs : List Str}, strsOf xs = some bs → xs = bs.map D.str
  | [], bs, h => by cases h; rfl
  | d :: r, bs, h => by
    cases d with
    | str b =>
      rw [strsOf] at h
      obtain ⟨cs, h1, h2⟩ := Option.map_eq_some_iff.mp h
      rw [← h2, strsOf_eq h1]; rfl
    | _ => simp [strsOf] at h
theorem strsOf_map (bs : List Str) : strsOf (bs.map D.str) = some bs := by
  induction bs with
  | nil => rfl
  | cons b r ih => simp [strsOf, ih]
noncomputable def joinF (x : Out) (y : Out) (m : Mem) : Option (Out × Mem) := match x with
  | .v (.str a) => (seqOf y m).bind fun xs => (strsOf xs).bind fun ys => if fits ((ys.map (·.length)).sum + ys.length * a.length) then some (.v (.str (Txt.join a ys)), m) else none
  | _ => none
def rJoinU (K : PySem.W.Frag) : V → List V → Hp → VK → Prop := fun x xs H Q => ∃ a p, ∃ ys : List Str, x = .str a ∧ xs = [.ref p] ∧ (SqL K H p (ys.map V.str) ∨ SqT K H p (ys.map V.str)) ∧ (ys.map (·.length)).sum + ys.length * a.length ≤ 16777216 ∧ Q (.str (Txt.join a ys)) H
theorem joinU {K : PySem.W.Frag} : R2S K (fun v u H Q => rJoinU K v [u] H Q) joinF := by
  intro ι H H0 m x y z vx vy m' Q rm bd rx ry hf k
  unfold joinF at hf
  split at hf
  · obtain ⟨xs, h1, hf⟩ := bind_some hf
    obtain ⟨ys, h2, hf⟩ := bind_some hf
    split at hf
    · rename_i hl; cases hf; cases rx
      obtain ⟨a, vs, rfl, hs, r⟩ := seq_at rm ry h1
      rw [strsOf_eq h2] at r
      have := r.of_strs
      subst this
      have hl' : _ ≤ 16777216 := Nat.le_trans (show _ ≤ sizeLine from hl) (Nat.le_of_eq sizeLine_eq)
      exact ⟨_, _, ys, rfl, rfl, hs, hl', k _ ι H (Le.refl _ _) rm (RV.str _)⟩
    · cases hf
  · cases hf
/-! ### in -/
mutual
def flatD : D → Bool
  | .non => true
  | .bl _ => true
  | .int _ => true
  | .str _ => true
  | _ => false
end
theorem flatD_v {K : PySem.W.Frag} {ι : List Addr} {H : Hp} {d : D} {v : V} (r : RV K ι H d v) (h : flatD d = true) : flatV v = true := by
  cases r <;> first | rfl | (simp [flatD] at h)
theorem flatD_all {K : PySem.W.Frag} {ι : List Addr} {H : Hp} : ∀ {ds : List D} {vs : List V}, RVs K ι H ds vs → ds.all flatD = true → vs.all flatV = true
  | _, _, .nil, _ => rfl
  | _, _, .cons r t, h => by
    simp only [List.all_cons, Bool.and_eq_true] at h ⊢
    exact ⟨flatD_v r h.1, flatD_all t h.2⟩
theorem eqV_D {K : PySem.W.Frag} {ι : List Addr} {H : Hp} {d e : D} {v u : V} (r : RV K ι H d v) (q : RV K ι H e u) (h : flatD d = true) (h2 : flatD e = true) : eqV v u = d.eqb e := by
  cases r <;> cases q <;> first | (simp [flatD] at h; done) | (simp [flatD] at h2; done) | simp [eqV, D.eqb, bdec]
theorem inV_D {K : PySem.W.Frag} {ι : List Addr} {H : Hp} {e : D} {u : V} (q : RV K ι H e u) (h2 : flatD e = true) : ∀ {ds : List D} {vs : List V}, RVs K ι H ds vs → ds.all flatD = true → inV u vs = ds.any fun d => d.eqb e
  | _, _, .nil, _ => rfl
  | _, _, .cons r t, h => by
    simp only [List.all_cons, Bool.and_eq_true] at h
    have ih := inV_D q h2 t h.2
    unfold inV at ih ⊢
    simp only [List.any_cons, ih, eqV_D r q h.1 h2]
/-- x in y: a sign in a text; flat things in a list or tuple; any data in a list -/
def inF (neg : Bool) (x : Out) (y : Out) (m : Mem) : Option (Out × Mem) := match y with
  | .v (.str z) => (match x with
    | .v (.str a) => some (.v (.bl (if neg then !(!(Builtin.Str.occurrences z a 0 z.length 1).isEmpty) else !(Builtin.Str.occurrences z a 0 z.length 1).isEmpty)), m)
    | _ => none)
  | y => (form x m).bind fun a => (seqOf y m).bind fun xs =>
    if flatD a = true ∧ xs.all flatD = true then some (.v (.bl (if neg then !(xs.any fun d => d.eqb a) else xs.any fun d => d.eqb a)), m)
    else if okD 64 a = true ∧ okL 63 xs = true then some (.v (.bl (if neg then !(xs.any fun d => d.eqb a) else xs.any fun d => d.eqb a)), m) else none
section
variable {X : Cx}
def rInT (K : PySem.W.Frag) (neg : Bool) : R2 := fun x y H Q => ∃ d ds, Dp K H x d ∧ Dp K H y (.tuple ds) ∧ SeqAt.shaped d = true ∧ SeqAt.shaped (.tuple ds) = true ∧ Q (.bl (if neg then !(ds.any fun z => PyData.eqv z d) else ds.any fun z => PyData.eqv z d)) H
theorem op_inT (hu : X.A.units + 65 < cLine) : OpR X (compareOp .In) (rInT X.K false) := by
  intro pins s σ H x y v u Q I rx ry h
  obtain ⟨d, ds, hd, he, sd, se, q⟩ := h
  obtain ⟨as, r1⟩ := Dp.reads I d x v hd rx
  obtain ⟨bs, r2⟩ := Dp.reads I (.tuple ds) y u he ry
  exact SeqAt.in_tuple_reads r2 r1 (SeqAt.canLay_of_shaped se) (SeqAt.canLay_of_shaped sd) (PyProof.Rows.room_in_shaped sd hu) ⟨.bl _, H, I, rfl, q⟩
theorem op_notInT (hu : X.A.units + 65 < cLine) : OpR X (compareOp .NotIn) (rInT X.K true) := by
  intro pins s σ H x y v u Q I rx ry h
  obtain ⟨d, ds, hd, he, sd, se, q⟩ := h
  obtain ⟨as, r1⟩ := Dp.reads I d x v hd rx
  obtain ⟨bs, r2⟩ := Dp.reads I (.tuple ds) y u he ry
  exact SeqAt.notIn_tuple_reads r2 r1 (SeqAt.canLay_of_shaped se) (SeqAt.canLay_of_shaped sd) (PyProof.Rows.room_in_shaped sd hu) ⟨.bl _, H, I, rfl, q⟩
end
theorem any_pd {a : D} : ∀ {xs : List D} {n k : Nat}, okD n a = true → okL k xs = true → ((pdL xs).any fun z => PyData.eqv z a.pd) = xs.any fun d => d.eqb a
  | [], _, _, _, _ => rfl
  | d :: ds, n, k, h, h2 => by
    rw [okL, Bool.and_eq_true] at h2
    rw [pdL]
    simp only [List.any_cons, any_pd h h2.2, pd_eqv d a k n h2.1 h]
def rInU (K : PySem.W.Frag) : R2 := fun x y H Q => (((∃ i j, x = .str i ∧ y = .str j ∧ Q (.bl (!(Builtin.Str.occurrences j i 0 j.length 1).isEmpty)) H) ∨ rIn K false x y H Q) ∨ rInD K x y H Q) ∨ rInT K false x y H Q
def rNotInU (K : PySem.W.Frag) : R2 := fun x y H Q => (((∃ i j, x = .str i ∧ y = .str j ∧ Q (.bl (!(!(Builtin.Str.occurrences j i 0 j.length 1).isEmpty))) H) ∨ rIn K true x y H Q) ∨ rNotInD K x y H Q) ∨ rInT K true x y H Q
theorem op_inU {X : Cx} (hu : X.A.units + 65 < cLine) : OpR X (compareOp .In) (rInU X.K) := ((op_in_str.or op_in_seq).or (op_inD hu)).or (op_inT hu)
theorem op_notInU {X : Cx} (hu : X.A.units + 65 < cLine) : OpR X (compareOp .NotIn) (rNotInU X.K) := ((op_notin_str.or op_notIn_seq).or (op_notInD hu)).or (op_notInT hu)
theorem flat_ok {a : D} (h : flatD a = true) (h2 : okD 64 a = true) : True := trivial
theorem form_flat {K : PySem.W.Frag} {ι : List Addr} {H H0 : Hp} {m : Mem} {x : Out} {v : V} {a : D} (ro : RO K H0 ι H x v) (h : form x m = some a) (hf : flatD a = true) : RV K ι H a v := by
  unfold form at h
  split at h
  · split at h
    · cases h; simp [flatD] at hf
    · cases h
  · cases h; simp [flatD] at hf
  · cases h; exact ro
  · cases h
/-- a list or a tuple as data -/
theorem seq_dp {K : PySem.W.Frag} {ι : List Addr} {H H0 : Hp} {m : Mem} {y : Out} {v : V} {xs : List D} (rm : RM K ι H m) (ro : RO K H0 ι H y v) (h : seqOf y m = some xs) (hk : okL 63 xs = true) : Dp K H v (.list (pdL xs)) ∨ Dp K H v (.tuple (pdL xs)) := by
  obtain ⟨a, vs, rfl, hs, r⟩ := seq_at rm ro h
  rcases hs with hs | hs
  · exact .inl (.lst hs (r.dp hk))
  · exact .inr (.tup hs (r.dp hk))
theorem shapedL {xs : List D} (hk : okL 63 xs = true) : SeqAt.shaped (.list (pdL xs)) = true := by
  have q := pdL_lay xs 63 hk
  unfold SeqAt.shaped
  simp only [PyData.canLay0, PyData.depth, q.1, Bool.true_and]
  exact decide_eq_true (by omega)
theorem shapedT {xs : List D} (hk : okL 63 xs = true) : SeqAt.shaped (.tuple (pdL xs)) = true := by
  have q := pdL_lay xs 63 hk
  unfold SeqAt.shaped
  simp only [PyData.canLay0, PyData.depth, q.1, Bool.true_and]
  exact decide_eq_true (by omega)
theorem inU {K : PySem.W.Frag} : R2S K (rInU K) (inF false) := by
  intro ι H H0 m x y z vx vy m' Q rm bd rx ry hf k
  unfold inF at hf
  split at hf
  · split at hf
    · cases hf; cases rx; cases ry
      exact .inl (.inl (.inl ⟨_, _, rfl, rfl, k _ ι H (Le.refl _ _) rm (RV.bl _)⟩))
    · cases hf
  · obtain ⟨a, h1, hf⟩ := bind_some hf
    obtain ⟨xs, h2, hf⟩ := bind_some hf
    split at hf
    · rename_i hfl; cases hf
      have ra := form_flat rx h1 hfl.1
      obtain ⟨p, vs, rfl, hs, r⟩ := seq_at rm ry h2
      refine .inl (.inl (.inr ⟨_, vs, rfl, hs, flatD_v ra hfl.1, flatD_all r hfl.2, ?_⟩))
      rw [inV_D ra hfl.1 r hfl.2]
      exact k _ ι H (Le.refl _ _) rm (RV.bl _)
    · split at hf
      · rename_i hok; cases hf
        have da := form_at rm rx h1 hok.1
        rw [if_neg Bool.false_ne_true] at k
        rcases seq_dp rm ry h2 hok.2 with q | q
        · exact .inl (.inr ⟨_, _, da, q, shaped_of hok.1, shapedL hok.2, by rw [any_pd hok.1 hok.2]; exact k _ ι H (Le.refl _ _) rm (RV.bl _)⟩)
        · refine .inr ⟨_, _, da, q, shaped_of hok.1, shapedT hok.2, ?_⟩
          rw [any_pd hok.1 hok.2]
          exact k _ ι H (Le.refl _ _) rm (RV.bl _)
      · cases hf
theorem notInU {K : PySem.W.Frag} : R2S K (rNotInU K) (inF true) := by
  intro ι H H0 m x y z vx vy m' Q rm bd rx ry hf k
  unfold inF at hf
  split at hf
  · split at hf
    · cases hf; cases rx; cases ry
      exact .inl (.inl (.inl ⟨_, _, rfl, rfl, k _ ι H (Le.refl _ _) rm (RV.bl _)⟩))
    · cases hf
  · obtain ⟨a, h1, hf⟩ := bind_some hf
    obtain ⟨xs, h2, hf⟩ := bind_some hf
    split at hf
    · rename_i hfl; cases hf
      have ra := form_flat rx h1 hfl.1
      obtain ⟨p, vs, rfl, hs, r⟩ := seq_at rm ry h2
      refine .inl (.inl (.inr ⟨_, vs, rfl, hs, flatD_v ra hfl.1, flatD_all r hfl.2, ?_⟩))
      rw [inV_D ra hfl.1 r hfl.2]
      exact k _ ι H (Le.refl _ _) rm (RV.bl _)
    · split at hf
      · rename_i hok; cases hf
        have da := form_at rm rx h1 hok.1
        rw [if_pos rfl] at k
        rcases seq_dp rm ry h2 hok.2 with q | q
        · exact .inl (.inr ⟨_, _, da, q, shaped_of hok.1, shapedL hok.2, by rw [any_pd hok.1 hok.2]; exact k _ ι H (Le.refl _ _) rm (RV.bl _)⟩)
        · refine .inr ⟨_, _, da, q, shaped_of hok.1, shapedT hok.2, ?_⟩
          rw [any_pd hok.1 hok.2]
          exact k _ ι H (Le.refl _ _) rm (RV.bl _)
      · cases hf
/-! ### o[i] = v in a list -/
def stoF (o i : Out) (d : D) (m : Mem) : Option Mem := match o, i with
  | .v (.ref n), .v (.int k) => (match m[n]? with
    | some (.lst xs) => (ixN xs.length k).map fun j => m.set n (.lst (xs.set j d))
    | _ => none)
  | _, _ => none
@[simp] def gIx (o i : E) (d : D) (ρ : Env) (m : Mem) : Option (Env × Mem) := (o ρ m).bind fun x => (i ρ x.2).bind fun y => (stoF x.1 y.1 d y.2).bind fun m' => some (ρ, m')
theorem sg_ix {X : Cx} {e : Expr} {fo fi : E} (h0 : PG X e (gSub (tE X.K fo) (tE X.K fi) rSetL)) : SG X e (gIx fo fi) := pg_imp h0 fun v σ H Q ⟨ι, ρ, m, d, ρ', m', rs, rm, rv, hg, k⟩ => by
  obtain ⟨x, h1, hg⟩ := bind_some hg
  obtain ⟨y, h2, hg⟩ := bind_some hg
  obtain ⟨m2, h3, hg⟩ := bind_some hg
  cases hg
  refine ⟨ι, ρ, m, x.1, x.2, rs, rm, h1, fun ov ι1 H1 l1 rm1 ro1 bd1 => ?_⟩
  refine ⟨ι1, ρ, x.2, y.1, y.2, rs.mono l1, rm1, h2, fun iv ι2 H2 l2 rm2 ro2 bd2 => ?_⟩
  unfold stoF at h3
  split at h3
  · rename_i n kk e1 e2
    rw [e1] at ro1
    rw [e2] at ro2
    cases ro2
    split at h3
    · rename_i xs hm
      obtain ⟨j, h4, h5⟩ := Option.map_eq_some_iff.mp h3
      cases h5
      have ro3 := ro1.mono l2
      cases ro3 with
      | ref e =>
        obtain ⟨a, e3, vs, e4, r⟩ := rm2.ob _ _ hm
        rw [e] at e3; cases e3
        obtain ⟨l3, rm3⟩ := set_lst rm2 e e4 (r.set ((rv.mono l1).mono l2) j)
        exact ⟨_, vs, kk, j, rfl, rfl, e4, by rw [← r.length]; exact h4, k _ ι2 _ (l1.tr rm1 (l2.tr rm2 l3)) (((rs.mono l1).mono l2).mono l3) rm3⟩
    · cases h3
  · cases h3
end Q
namespace Q
open PySem L2

/-! ### short words for the terms that are printed -/
section
variable {X : Cx} {e a b c : Expr} {es : List Expr} {pos p p2 : Pos} {fa fb fc : E} {ca cb : B} {fr : A} {x : Str} {k j : Nat}
theorem v_ (i : Nat) {x : Str} {pos : Pos} (hN : X.N[i]? = some x := by rfl) (hv : Vis X.env.scope x := by first | exact Or.inl rfl | exact Or.inr (Or.inl rfl) | exact Or.inr (Or.inr rfl)) (hd : (x == ("__debug__" : Str)) = false := by decide)
    (hcd : (x == ("__classdict__" : Str)) = false := by decide) : SE X (.Name x pos) (eVar i) := se_var (pe_var hN hv hd hcd)
theorem ci {i : Int} {j : Nat} : SE X (.Constant (.int i) j pos) (eC (.int i)) := se_c pe_int fun _ _ _ => .int i
theorem cs {s : Str} {j : Nat} : SE X (.Constant (.str s) j pos) (eC (.str s)) := se_c pe_str fun _ _ _ => .str s
theorem cb_ {b : Bool} {j : Nat} : SE X (.Constant (.bool b) j pos) (eC (.bl b)) := se_c pe_bl fun _ _ _ => .bl b
theorem cn {j : Nat} : SE X (.Constant .none j pos) (eC .non) := se_c pe_non fun _ _ _ => .non
/-- constants of the module -/
theorem gs_ {s : Str} {t : Tok} (h : X.mg x = some (.str s t)) (hg : Gl X x := by rfl) (hd : (x == ("__debug__" : Str)) = false := by decide) : SE X (.Name x pos) (eC (.str s)) := se_c (v := .str s) (pe_glob hg h ⟨t, rfl⟩ hd) fun _ _ _ => .str s
theorem gi_ {s : Int} {t : Tok} (h : X.mg x = some (.int s t)) (hg : Gl X x := by rfl) (hd : (x == ("__debug__" : Str)) = false := by decide) : SE X (.Name x pos) (eC (.int s)) := se_c (v := .int s) (pe_glob hg h ⟨t, rfl⟩ hd) fun _ _ _ => .int s
theorem add_ (ha : SE X a fa) (hb : SE X b fb) : SE X (.BinOp a .Add b pos) (eBin addF fa fb) := se_op op_addU addU ha hb
theorem sub_ (ha : SE X a fa) (hb : SE X b fb) : SE X (.BinOp a .Sub b pos) (eBin subF fa fb) := se_op op_sub subU ha hb
theorem mul_ (ha : SE X a fa) (hb : SE X b fb) : SE X (.BinOp a .Mult b pos) (eBin mulF fa fb) := se_op op_mulU mulU ha hb
theorem mod_ (ha : SE X a fa) (hb : SE X b fb) : SE X (.BinOp a .Mod b pos) (eBin modF fa fb) := se_op op_mod modU ha hb
theorem div_ (ha : SE X a fa) (hb : SE X b fb) : SE X (.BinOp a .FloorDiv b pos) (eBin divF fa fb) := se_op op_fdiv divU ha hb
theorem pow_ (ha : SE X a fa) (hb : SE X b fb) : SE X (.BinOp a .Pow b pos) (eBin powF fa fb) := se_op op_pow powU ha hb
theorem neg_ (ha : SE X a fa) : SE X (.UnaryOp .USub a pos) (eUn negF fa) := se_un un_neg negU ha (pe_un un_neg ha)
theorem and_ {rest : List Expr} (ha : SE X a fa) (hb : SE X (.BoolOp .And (b :: rest) pos) fb) : SE X (.BoolOp .And (a :: b :: rest) pos) (eAnd fa fb) := se_and ha hb (pe_and ha hb)
theorem or_ {rest : List Expr} (ha : SE X a fa) (hb : SE X (.BoolOp .Or (b :: rest) pos) fb) : SE X (.BoolOp .Or (a :: b :: rest) pos) (eOr fa fb) := se_or ha hb (pe_or ha hb)
theorem one_ {op : BoolOp} (ha : SE X a fa) : SE X (.BoolOp op [a] pos) fa := pe_one ha
theorem not_ (ha : SE X a fa) : SE X (.UnaryOp .Not a pos) (eNot fa) := se_not (pe_not ha)
theorem if_ (hc : ST X c ca) (ha : SE X a fa) (hb : SE X b fb) : SE X (.IfExp c a b pos) (eIf ca fa fb) := se_if (pe_ifExp hc ha hb)
/-! comparisons as values and as tests -/
theorem eq_ (hr : Room k X.A) (ha : SE X a fa) (hb : SE X b fb) : SE X (.Compare a [.Eq] [b] pos) (eBin eqF fa fb) := se_cmp (op_eqD hr.units) eqU ha hb (nomark _)
theorem ne_ (hr : Room k X.A) (ha : SE X a fa) (hb : SE X b fb) : SE X (.Compare a [.NotEq] [b] pos) (eBin neF fa fb) := se_cmp (op_neD hr.units) neU ha hb (nomark _)
theorem lt_ (ha : SE X a fa) (hb : SE X b fb) : SE X (.Compare a [.Lt] [b] pos) (eBin ltF fa fb) := se_cmp op_lt cmpU ha hb (nomark _)
theorem le_ (ha : SE X a fa) (hb : SE X b fb) : SE X (.Compare a [.LtE] [b] pos) (eBin leF fa fb) := se_cmp op_le cmpU ha hb (nomark _)
theorem gt_ (ha : SE X a fa) (hb : SE X b fb) : SE X (.Compare a [.Gt] [b] pos) (eBin gtF fa fb) := se_cmp op_gt cmpU ha hb (nomark _)
theorem ge_ (ha : SE X a fa) (hb : SE X b fb) : SE X (.Compare a [.GtE] [b] pos) (eBin geF fa fb) := se_cmp op_ge cmpU ha hb (nomark _)
theorem is_ (ha : SE X a fa) (hb : SE X b fb) : SE X (.Compare a [.Is] [b] pos) (eBin (isF false) fa fb) := se_cmp op_isU isU ha hb (nomark _)
theorem isn_ (ha : SE X a fa) (hb : SE X b fb) : SE X (.Compare a [.IsNot] [b] pos) (eBin (isF true) fa fb) := se_cmp op_isNU isNU ha hb (nomark _)
theorem u65 (hr : Room k X.A) : X.A.units + 65 < cLine := by have := hr.un; omega
theorem in_ (hr : Room k X.A) (ha : SE X a fa) (hb : SE X b fb) (hm : behindInMarks .In b = false := by with_unfolding_all rfl) : SE X (.Compare a [.In] [b] pos) (eBin (inF false) fa fb) := se_cmp (op_inU (u65 hr)) inU ha hb hm
theorem nin_ (hr : Room k X.A) (ha : SE X a fa) (hb : SE X b fb) (hm : behindInMarks .NotIn b = false := by with_unfolding_all rfl) : SE X (.Compare a [.NotIn] [b] pos) (eBin (inF true) fa fb) := se_cmp (op_notInU (u65 hr)) notInU ha hb hm
theorem t_eq (hr : Room k X.A) (ha : SE X a fa) (hb : SE X b fb) : ST X (.Compare a [.Eq] [b] pos) (bOf (eBin eqF fa fb)) := st_cmp (op_eqD hr.units) eqU ha hb (nomark _)
theorem t_ne (hr : Room k X.A) (ha : SE X a fa) (hb : SE X b fb) : ST X (.Compare a [.NotEq] [b] pos) (bOf (eBin neF fa fb)) := st_cmp (op_neD hr.units) neU ha hb (nomark _)
theorem t_lt (ha : SE X a fa) (hb : SE X b fb) : ST X (.Compare a [.Lt] [b] pos) (bOf (eBin ltF fa fb)) := st_cmp op_lt cmpU ha hb (nomark _)
theorem t_le (ha : SE X a fa) (hb : SE X b fb) : ST X (.Compare a [.LtE] [b] pos) (bOf (eBin leF fa fb)) := st_cmp op_le cmpU ha hb (nomark _)
theorem t_gt (ha : SE X a fa) (hb : SE X b fb) : ST X (.Compare a [.Gt] [b] pos) (bOf (eBin gtF fa fb)) := st_cmp op_gt cmpU ha hb (nomark _)
theorem t_ge (ha : SE X a fa) (hb : SE X b fb) : ST X (.Compare a [.GtE] [b] pos) (bOf (eBin geF fa fb)) := st_cmp op_ge cmpU ha hb (nomark _)
theorem t_is (ha : SE X a fa) (hb : SE X b fb) : ST X (.Compare a [.Is] [b] pos) (bOf (eBin (isF false) fa fb)) := st_cmp op_isU isU ha hb (nomark _)
theorem t_isn (ha : SE X a fa) (hb : SE X b fb) : ST X (.Compare a [.IsNot] [b] pos) (bOf (eBin (isF true) fa fb)) := st_cmp op_isNU isNU ha hb (nomark _)
theorem t_in (hr : Room k X.A) (ha : SE X a fa) (hb : SE X b fb) (hm : behindInMarks .In b = false := by with_unfolding_all rfl) : ST X (.Compare a [.In] [b] pos) (bOf (eBin (inF false) fa fb)) := st_cmp (op_inU (u65 hr)) inU ha hb hm
theorem t_nin (hr : Room k X.A) (ha : SE X a fa) (hb : SE X b fb) (hm : behindInMarks .NotIn b = false := by with_unfolding_all rfl) : ST X (.Compare a [.NotIn] [b] pos) (bOf (eBin (inF true) fa fb)) := st_cmp (op_notInU (u65 hr)) notInU ha hb hm
/-- chains of two, of ints -/
theorem ch_ {op op' : CmpOp} {r r' : R2} {f g : F2} (ho : OpR X (compareOp op) r) (ho' : OpR X (compareOp op') r') (hr : R2S X.K r f) (hr' : R2S X.K r' g) (ha : SE X a fa) (hb : SE X b fb) (hc : SE X c fc)
    (hm : lastMarks [op, op'] [b, c] = false := by with_unfolding_all rfl) : SE X (.Compare a [op, op'] [b, c] pos) (eChain f g fa fb fc) := se_chain (pe_chain ho ho' ha hb hc hm) hr hr'
theorem t_ch {op op' : CmpOp} {r r' : R2} {f g : F2} (ho : OpR X (compareOp op) r) (ho' : OpR X (compareOp op') r') (hr : R2S X.K r f) (hr' : R2S X.K r' g) (ha : SE X a fa) (hb : SE X b fb) (hc : SE X c fc)
    (hm : lastMarks [op, op'] [b, c] = false := by with_unfolding_all rfl) : ST X (.Compare a [op, op'] [b, c] pos) (bOf (eChain f g fa fb fc)) := st_chain (pt_chain ho ho' ha hb hc hm) hr hr'
theorem t_val (h : SE X e fa) (he : ∀ whole, isTrue e X.env whole = (do let v ← whole; standAt e.pos; holding [v] (truthy v)) := by intro _; rfl) : ST X e (bOf fa) := st_of (pt_val h he)
theorem t_not (h : ST X a ca) : ST X (.UnaryOp .Not a pos) (bNot ca) := st_not (pt_not h)
theorem w_and {rest : List Expr} (ha : ST X a ca) (hb : SW X (.BoolOp .And (b :: rest) pos) cb) : SW X (.BoolOp .And (a :: b :: rest) pos) (bAnd ca cb) := sw_and (pw_and ha hb)
theorem w_or {rest : List Expr} (ha : ST X a ca) (hb : SW X (.BoolOp .Or (b :: rest) pos) cb) : SW X (.BoolOp .Or (a :: b :: rest) pos) (bOr ca cb) := sw_or (pw_or ha hb)
theorem w_and1 (ha : ST X a ca) : SW X (.BoolOp .And [a] pos) ca := pw_and1 ha
theorem w_or1 (ha : ST X a ca) : SW X (.BoolOp .Or [a] pos) ca := pw_or1 ha
theorem t_w (h : SW X e ca) : ST X e ca := h.pt
/-! arguments -/
theorem a0 : SA X [] aNil := sa_nil
theorem a1 (h : SE X e fa) (hr : SA X es fr) (hs : starEach (e :: es) X.env = (false, eval e X.env) :: starEach es X.env := by rfl) : SA X (e :: es) (aCons fa fr) := sa_cons (pa_cons h hr hs)
theorem pa1 {ta : TE} (h : PE X a ta) (hs : starEach [a] X.env = (false, eval a X.env) :: starEach [] X.env := by rfl) : PA X [a] (tCons ta tNil) := pa_cons h pa_nil hs
theorem pa2 {ta tb : TE} (h : PE X a ta) (h2 : PE X b tb) (hs : starEach [a, b] X.env = (false, eval a X.env) :: starEach [b] X.env := by rfl) (hs2 : starEach [b] X.env = (false, eval b X.env) :: starEach [] X.env := by rfl) : PA X [a, b] (tCons ta (tCons tb tNil)) := pa_cons h (pa_cons h2 pa_nil hs2) hs
theorem tup_ {k1 : Nat} (h : SA X es fr) : SE X (.Tuple es k1 pos) (eTup fr) := se_tup h
theorem lst_ (h : SA X es fr) : SE X (.List es pos) (eLst fr) := se_lst h
/-! subscripts -/
theorem ix_ (ha : SE X a fa) (hb : SE X b fb) (hs : PlainIx b := by exact fun _ _ => rfl) : SE X (.Subscript a b pos) (eBin ixF fa fb) := se_ix ix_seq ixU ha hb hs
theorem sl_ {lo hi : Option Expr} {fl fh : O} (ha : SE X a fa) (hl : PO X lo (tO X.K fl)) (hh : PO X hi (tO X.K fh)) : SE X (.Subscript a (.Slice lo hi none p2) pos) (eSl fa fl fh) := se_slice (pos := pos) (p2 := p2) ha hl hh (pe_slice ((sl_list.or sl_tupN).or sl_str) ha hl hh)
theorem o0 : PO X none (tO X.K oNone) := so_none
theorem o1 (h : SE X e fa) : PO X (some e) (tO X.K (oSome fa)) := so_some h
/-! built-in functions -/
theorem len_ (hm : X.mg "len" = none) (ha : SE X a fa) (hg : Gl X "len" := by rfl) (hs : starEach [a] X.env = (false, eval a X.env) :: starEach [] X.env := by rfl) (hpl : (backTo pos (starEach [] X.env)).any (·.1) = false := by rfl) : SE X (.Call (.Name "len" p) [a] [] pos) (eUn lenF fa) :=
  se_b1 (pe_callB call_lenU hg hm PySem.boot_len (pa1 ha hs) (by decide) (by decide) hs hpl) lenU
theorem abs_ (hm : X.mg "abs" = none) (ha : SE X a fa) (hg : Gl X "abs" := by rfl) (hs : starEach [a] X.env = (false, eval a X.env) :: starEach [] X.env := by rfl) (hpl : (backTo pos (starEach [] X.env)).any (·.1) = false := by rfl) : SE X (.Call (.Name "abs" p) [a] [] pos) (eUn absF fa) :=
  se_b1 (pe_callB call_abs hg hm (by decide +kernel) (pa1 ha hs) (by decide) (by decide) hs hpl) absU
theorem all_ (hm : X.mg "all" = none) (ha : SE X a fa) (hc : X.calm = true := by rfl) (hg : Gl X "all" := by rfl) (hs : starEach [a] X.env = (false, eval a X.env) :: starEach [] X.env := by rfl) (hpl : (backTo pos (starEach [] X.env)).any (·.1) = false := by rfl) : SE X (.Call (.Name "all" p) [a] [] pos) (eUn allF fa) :=
  se_b1 (pe_callB (cr_all hc) hg hm (by decide +kernel) (pa1 ha hs) (by decide) (by decide) hs hpl) allU
theorem any_ (hm : X.mg "any" = none) (ha : SE X a fa) (hc : X.calm = true := by rfl) (hg : Gl X "any" := by rfl) (hs : starEach [a] X.env = (false, eval a X.env) :: starEach [] X.env := by rfl) (hpl : (backTo pos (starEach [] X.env)).any (·.1) = false := by rfl) : SE X (.Call (.Name "any" p) [a] [] pos) (eUn anyF fa) :=
  se_b1 (pe_callB (cr_any hc) hg hm (by decide +kernel) (pa1 ha hs) (by decide) (by decide) hs hpl) anyU
theorem int_ (hm : X.mg "int" = none) (ha : SE X a fa) (hg : Gl X "int" := by rfl) (hs : starEach [a] X.env = (false, eval a X.env) :: starEach [] X.env := by rfl) (hpl : (backTo pos (starEach [] X.env)).any (·.1) = false := by rfl) : SE X (.Call (.Name "int" p) [a] [] pos) (eUn intF fa) :=
  se_b1 (pe_callTy call_int1 hg hm (by decide +kernel) (pa1 ha hs) (by decide) (by decide) hs hpl) intU
theorem list_ (hm : X.mg "list" = none) (ha : SE X a fa) (hg : Gl X "list" := by rfl) (hs : starEach [a] X.env = (false, eval a X.env) :: starEach [] X.env := by rfl) (hpl : (backTo pos (starEach [] X.env)).any (·.1) = false := by rfl) : SE X (.Call (.Name "list" p) [a] [] pos) (eUn listF fa) :=
  se_b1 (pe_callTy call_list_of hg hm (by decide +kernel) (pa1 ha hs) (by decide) (by decide) hs hpl) listU
theorem tuple_ (hm : X.mg "tuple" = none) (ha : SE X a fa) (hg : Gl X "tuple" := by rfl) (hs : starEach [a] X.env = (false, eval a X.env) :: starEach [] X.env := by rfl) (hpl : (backTo pos (starEach [] X.env)).any (·.1) = false := by rfl) : SE X (.Call (.Name "tuple" p) [a] [] pos) (eUn tupF fa) :=
  se_b1 (pe_callTy call_tuple_ofN hg hm (by decide +kernel) (pa1 ha hs) (by decide) (by decide) hs hpl) tupU
theorem bt_ {t : Ty} (hm : X.mg t.nm = none) (hg : Gl X t.nm := by rfl) : PE X (.Name t.nm p) (tC (.ty t.nm)) := by
  cases t <;> exact pe_bltn hg hm (u := .type _) (by decide +kernel) rfl
theorem isi_ (t : Ty) (hm : X.mg "isinstance" = none) (ht : PE X b (tC (.ty t.nm))) (ha : SE X a fa) (hg : Gl X "isinstance" := by rfl) (hs : starEach [a, b] X.env = (false, eval a X.env) :: starEach [b] X.env := by rfl)
    (hs2 : starEach [b] X.env = (false, eval b X.env) :: starEach [] X.env := by rfl) (hpl : (backTo pos (starEach [b] X.env)).any (·.1) = false := by rfl) : SE X (.Call (.Name "isinstance" p) [a, b] [] pos) (eUn (isiF t) fa) :=
  se_isi (pe_callB call_isi hg hm (by decide +kernel) (pa2 ha ht hs hs2) (by decide) (by decide) hs hpl)
/-! methods -/
theorem app_ (h0 : PE X e (tBM X.K "list" rAppend (tE X.K fa) (tCons (tE X.K fb) tNil))) : SE X e (eMt1 "list" appF fa fb) := se_mt1 h0 appU
theorem pop_ (h0 : PE X e (tBM X.K "list" rPopAt (tE X.K fa) (tCons (tE X.K fb) tNil))) : SE X e (eMt1 "list" popF fa fb) := se_mt1 h0 popU.n
theorem pop0_ (h0 : PE X e (tBM0 X.K "list" rPop (tE X.K fa))) : SE X e (eMt0 "list" pop0F fa) := se_mt0 h0 pop0U
theorem ext_ (h0 : PE X e (tBM X.K "list" rExtend (tE X.K fa) (tCons (tE X.K fb) tNil))) : SE X e (eMt1 "list" extF fa fb) := se_mt1 h0 extU.n
theorem join_ (h0 : PE X e (tBM X.K "str" (rJoinU X.K) (tE X.K fa) (tCons (tE X.K fb) tNil))) : SE X e (eMt1 "str" joinF fa fb) := se_mt1 h0 joinU.n
/-! walks -/
theorem rg1_ {tg : Expr} (hm : X.mg "range" = none) (ha : SE X a fa) (hg : Gl X "range" := by rfl) (hs : starEach [a] X.env = [(false, eval a X.env)] := by rfl) : SI X tg (.Call (.Name "range" p) [a] [] pos) (iRg1 fa) := si_rg1 (pi_range1 hg hm (pa_cons ha pa_nil hs) hs)
theorem rg2_ {tg : Expr} (hm : X.mg "range" = none) (ha : SE X a fa) (hb : SE X b fb) (hg : Gl X "range" := by rfl) (hs : starEach [a, b] X.env = [(false, eval a X.env), (false, eval b X.env)] := by rfl) (hs2 : starEach [b] X.env = [(false, eval b X.env)] := by rfl)
    (hs3 : starEach [a, b] X.env = (false, eval a X.env) :: starEach [b] X.env := by rfl) : SI X tg (.Call (.Name "range" p) [a, b] [] pos) (iRg2 fa fb) := si_rg2 (pi_range2 hg hm (pa_cons ha (pa_cons hb pa_nil hs2) hs3) hs hs2)
theorem we {tg : Expr} (h : SE X e fa) : SI X tg e (iE fa) := si_e h
/-! targets -/
theorem nm_ (i : Nat) {x : Str} {pos : Pos} (hN : X.N.Nodup) (hi : X.N[i]? = some x := by rfl) (hx : Loc X.env.scope x := by first | exact .inl rfl | exact .inr rfl) (hf : X.fn x = true ∨ X.env.scope.names.lookup x = some .local := by first | exact .inl rfl | exact .inr rfl) : PG X (.Name x pos) (gName i) := pg_name hN hi hx hf
end
/-! ### a def of the top -/
def Df (K : PySem.W.Frag) (mg : Str → Option Value) (x : Str) (st : Stmt) : Prop := ∃ (f : Addr) (fd : FuncData), mg x = some (.ref f) ∧ Fun K x x st f fd
structure Callee (P : Program) (w : World) (K : PySem.W.Frag) (mg : Str → Option Value) (base : Heap) (k : Nat) (x : Str) (n : Nat) (F : Fn) : Prop where
  ex : ∃ (f : Addr) (fd : FuncData) (ps : List Str), FnOk P w K mg base CX0 k f fd ps (spF K n F) ∧ mg x = some (.ref f) ∧ PySem.W.keepIn K (.ref f) = true ∧ Binds K fd ps []
  len : ∀ ds m r, F ds m = some r → ds.length = n
section
variable {P : Program} {w : World} {K : PySem.W.Frag} {mg : Str → Option Value} {base : Heap}
theorem mkC {x : Str} {st : Stmt} {N ps : List Str} {k : Nat} {body : S} {np ns : Nat} (d : Df K mg x st) (Sc : FnScope N ps (defScope st)) (hp : ps.length = np) (hn : N.length = ns)
    (hb : ∀ (kV doc pm : Value) (an : Option Addr) (cdv ct : Value) (us : List Value), us.length = ps.length → bindArgs (PySem.W.fnOf x x (defArgs st) (defBody st) (defScope st) .none kV doc pm an cdv ct) ⟨us, []⟩ = pure (ps.zip us))
    (h : ∀ (f : Addr) (cdv : Value) (A : Around) (outer : List PySem.Env) (s : Shared) (H : Hp) (E : XK), Room k (A.deeper (PyProof.Rows.envOfC x (defScope st) s.heap.objs.size f cdv)) → SSs (cxOf CX0 P w K mg base N x (defScope st) f cdv A outer s H E).nox (defBody st) body) :
    Callee P w K mg base (k + 1) x np (fnD np ns body) := by
  obtain ⟨f, fd, e, F⟩ := d
  exact ⟨⟨f, fd, ps, fn_ok F Sc hp hn (h f), e, F.kp, F.binds hb⟩, fnD_len⟩
theorem call_ {X : Cx} {e : Expr} {es : List Expr} {pos p : Pos} {x : Str} {k j n : Nat} {F : Fn} {fr : A} (c : Callee X.prog X.w X.K X.mg X.base k x n F) (hr : Room j X.A) (hk : k ≤ j) (ha : SA X (e :: es) fr) (hg : Gl X x := by rfl)
    (hdb : (x == ("__debug__" : Str)) = false := by decide) (he : starEach (e :: es) X.env = (false, eval e X.env) :: starEach es X.env := by rfl) (hpl : (backTo pos (starEach es X.env)).any (·.1) = false := by rfl) : SE X (.Call (.Name x p) (e :: es) [] pos) (eCall F fr) := by
  obtain ⟨f, fd, ps, h1, h2, h3, h4⟩ := c.ex
  exact se_call (pe_call h1 (hr.mono hk) hg h2 h3 h4 .nil pass0 ha hdb he hpl) c.len
end
end Q
namespace Q
open PySem L2
/-! ### the end of a law -/
theorem df_mk {K : PySem.W.Frag} {h : Heap} {mg : Str → Option Value} {x : Str} {st : Stmt} {f : Addr} {oc : Value} {od an : Option Addr} {osl : Array (Option Value)} {kV doc pm cdv ct : Value} (X : K.In h) (G : h.Ns mainGlobals mg)
    (a : PySem.W.nsIn K mainGlobals x = some (some (.ref f))) (l : K.lookup f = some ⟨oc, od, .func (PySem.W.fnOf x x (defArgs st) (defBody st) (defScope st) .none kV doc pm an cdv ct), osl⟩) (c : PySem.W.codeIn K cdv x = true) (k : PySem.W.keepIn K (.ref f) = true) : Df K mg x st :=
  ⟨f, _, PySem.W.mg_of X G a, fun_mk (st := st) l c k⟩
theorem law_sp {K : PySem.W.Frag} {F : Fn} (h : ∀ ns : List Int, ns.length ≤ 63 → ∃ m', F [.fl (ns.map .int)] [] = some (.v (.bl true), m')) (H : Hp) (a : Addr) (ns : List Int) (hl : ns.length ≤ 63) (hO : Only H) (hS : SqL K H a (ns.map V.int)) (E : XK) :
    spF K 1 F [.ref a] H (fun v _ => v = .bl true) E := by
  obtain ⟨m', e⟩ := h ns hl
  have fl : FlAt K H a (ns.map V.int) := by
    rcases hS with (q | ⟨o, q⟩) | q
    · rcases hO a with z | ⟨o, xs, z⟩
      · rw [z] at q; cases q
      · rw [z] at q; cases q
    · exact .inl ⟨o, q⟩
    · exact .inr q
  refine ⟨[], [.fl (ns.map .int)], [], .v (.bl true), m', rfl, .cons (.fl fl (RVs.ints ns)) .nil, ⟨by simp, rfl, fun n b hb => by simp at hb⟩, e, fun v ι' H' _ _ ro => ?_⟩
  cases ro
  rfl
theorem okLaw {P : Program} {w : World} {K : PySem.W.Frag} {mg : Str → Option Value} {base : Heap} {x : Str} {st : Stmt} {f : Addr} {fd : FuncData} {N ps : List Str} {k : Nat} {body : S} {np ns : Nat} (F : Fun K x x st f fd) (Sc : FnScope N ps (defScope st)) (hp : ps.length = np) (hn : N.length = ns)
    (h : ∀ (f : Addr) (cdv : Value) (A : Around) (outer : List PySem.Env) (s : Shared) (H : Hp) (E : XK), Room k (A.deeper (PyProof.Rows.envOfC x (defScope st) s.heap.objs.size f cdv)) → SSs (cxOf CX0 P w K mg base N x (defScope st) f cdv A outer s H E).nox (defBody st) body) :
    FnOk P w K mg base CX0 (k + 1) f fd ps (spF K np (fnD np ns body)) := fn_ok F Sc hp hn (h f)
end Q
namespace Q
open PySem L2

/-! ### lists that stand while they are walked -/
def lsrc (x : Out) (m : Mem) : Option Src := match x with
  | .v (.fl a) => some ⟨a, []⟩
  | .v (.ref n) => (match m[n]? with | some (.lst a) => some ⟨a, [(n, .lst a)]⟩ | _ => none)
  | .o (.lst a) => some ⟨a, []⟩
  | _ => none
theorem lsrc_at {K : PySem.W.Frag} {ι : List Addr} {H H0 : Hp} {m : Mem} {x : Out} {v : V} {s : Src} (rm : RM K ι H m) (ro : RO K H0 ι H x v) (h : lsrc x m = some s) :
    ∃ a vs, v = .ref a ∧ SqL K H a vs ∧ RVs K ι H s.items vs ∧ ∀ ι2 H2 m2, Le ι H ι2 H2 → RM K ι2 H2 m2 → chk s.live m2 → ∃ ws, SqL K H2 a ws ∧ RVs K ι2 H2 s.items ws := by
  unfold lsrc at h
  split at h
  · cases h
    cases ro with
    | fl hs r => exact ⟨_, _, rfl, hs.sq, r, fun ι2 H2 m2 l2 rm2 _ => ⟨_, (l2.k.rdF hs).sq, r.mono l2⟩⟩
  · split at h
    · rename_i n _ xs hm; cases h
      cases ro with
      | ref e2 =>
        obtain ⟨a, e3, vs, e4, r⟩ := rm.ob _ _ hm
        rw [e2] at e3; cases e3
        refine ⟨_, vs, rfl, .inl (.inl e4), r, fun ι2 H2 m2 l2 rm2 hc => ?_⟩
        have hm2 : m2[n]? = some (.lst xs) := hc (n, .lst xs) (by simp)
        obtain ⟨a', e5, vs', e6, r'⟩ := rm2.ob _ _ hm2
        rw [l2.ix e2] at e5; cases e5
        exact ⟨vs', .inl (.inl e6), r'⟩
    · cases h
  · cases h
    obtain ⟨p, e2, e3, hi, vs, e4, r⟩ := ro
    subst e2
    exact ⟨_, vs, rfl, .inl (.inl e4), r, fun ι2 H2 m2 l2 rm2 _ => ⟨_, .inl (.inl (l2.keep _ _ e4 (.inr hi))), r.mono l2⟩⟩
  · cases h
/-! ### zip -/
def zipD : List D → List D → List D
  | x :: xs, y :: ys => .par [x, y] :: zipD xs ys
  | _, _ => []
theorem zipD_len : ∀ (xs ys : List D), (zipD xs ys).length = min xs.length ys.length
  | [], _ => by simp [zipD]
  | _ :: _, [] => by simp [zipD]
  | x :: xs, y :: ys => by simp [zipD, zipD_len xs ys]
theorem zipD_get : ∀ {xs ys : List D} {i : Nat} {d : D}, (zipD xs ys)[i]? = some d → ∃ x y, xs[i]? = some x ∧ ys[i]? = some y ∧ d = .par [x, y]
  | [], _, _, _, h => by simp [zipD] at h
  | _ :: _, [], _, _, h => by simp [zipD] at h
  | x :: xs, y :: ys, 0, d, h => by simp [zipD] at h; exact ⟨x, y, rfl, rfl, h.symm⟩
  | x :: xs, y :: ys, i + 1, d, h => by
    obtain ⟨a, b, e1, e2, e3⟩ := zipD_get (xs := xs) (ys := ys) (i := i) (d := d) (by simpa [zipD] using h)
    exact ⟨a, b, by simpa using e1, by simpa using e2, e3⟩
def zipOf (x y : Out) (m : Mem) : Option Src := match x, y with
  | .v (.tup a), .v (.tup b) => some ⟨zipD a b, []⟩
  | x, y => (lsrc x m).bind fun s => (lsrc y m).bind fun t => some ⟨zipD s.items t.items, s.live ++ t.live⟩
@[simp] def iZip (a b : E) (ρ : Env) (m : Mem) : Option (Src × Mem) := (a ρ m).bind fun x => (b ρ x.2).bind fun y => (zipOf x.1 y.1 y.2).bind fun s => some (s, y.2)
theorem chk_app {l1 l2 : List (Nat × Ob)} {m : Mem} (h : chk (l1 ++ l2) m) : chk l1 m ∧ chk l2 m := ⟨fun p hp => h p (List.mem_append_left _ hp), fun p hp => h p (List.mem_append_right _ hp)⟩
theorem si_zip {X : Cx} {tg e : Expr} {fa fb : E} (h : PI X tg e (RZ.iZipA X.K (tCons (tE X.K fa) (tCons (tE X.K fb) tNil)))) : SI X tg e (iZip fa fb) := pi_imp h fun σ H R ⟨ι, ρ, m, s, m', rs, rm, hf, k⟩ => by
  obtain ⟨x, h1, hf⟩ := bind_some hf
  obtain ⟨y, h2, hf⟩ := bind_some hf
  obtain ⟨s', h3, hf⟩ := bind_some hf
  cases hf
  refine ⟨ι, ρ, m, x.1, x.2, rs, rm, h1, fun v ι1 H1 l1 rm1 ro1 bd1 => ?_⟩
  refine ⟨ι1, ρ, x.2, y.1, y.2, rs.mono l1, rm1, h2, fun u ι2 H2 l2 rm2 ro2 bd2 => ?_⟩
  have ro1 := ro1.mono l2
  unfold zipOf at h3
  split at h3
  · rename_i a b e1 e2; cases h3
    rw [e1] at ro1
    rw [e2] at ro2
    cases ro1 with
    | tup hs r =>
      cases ro2 with
      | tup hs2 r2 =>
        refine ⟨_, _, _, _, rfl, .inr ⟨hs.sq, hs2.sq, fun bd => k _ ι2 H2 (l1.tr rm1 l2) rm2 ?_ bd ?_⟩⟩
        · intro ι3 H3 m3 i l3 rm3 _
          have hs' := (l3.k.rdT hs).sq
          have hs2' := (l3.k.rdT hs2).sq
          have r' := r.mono l3
          have r2' := r2.mono l3
          refine ⟨fun hl => ⟨_, _, hs', hs2', ?_⟩, fun d hd => ?_⟩
          · rw [show (⟨zipD a b, []⟩ : Src).items = zipD a b from rfl, zipD_len] at hl
            rw [← r.length, ← r2.length]; omega
          · obtain ⟨d1, d2, g1, g2, rfl⟩ := zipD_get hd
            obtain ⟨v1, w1, q1⟩ := r'.get g1
            obtain ⟨v2, w2, q2⟩ := r2'.get g2
            refine ⟨⟨_, _, v1, v2, hs', hs2', w1, w2⟩, fun z H4 hy => ?_⟩
            obtain ⟨T, z1, z2, rfl, hT, rfl, y1, y2⟩ := hy
            have y1 := y1 _ hs'
            have y2 := y2 _ hs2'
            rw [w1] at y1; cases y1
            rw [w2] at y2; cases y2
            exact ⟨Le.newAt hT, rm3.newAt hT, new_par hT (.cons q1 (.cons q2 .nil))⟩
        · show (zipD a b).length ≤ _
          rw [zipD_len]
          have := bd2 _ _ (.inr hs.sq)
          rw [← r.length] at this
          omega
  · obtain ⟨s1, h4, h3⟩ := bind_some h3
    obtain ⟨s2, h5, h3⟩ := bind_some h3
    cases h3
    obtain ⟨a1, vs1, rfl, q1, r1, k1⟩ := lsrc_at (m := y.2) rm2 ro1 h4
    obtain ⟨a2, vs2, rfl, q2, r2, k2⟩ := lsrc_at rm2 ro2 h5
    refine ⟨_, _, _, _, rfl, .inl ⟨q1, q2, fun bd => k _ ι2 H2 (l1.tr rm1 l2) rm2 ?_ bd ?_⟩⟩
    · intro ι3 H3 m3 i l3 rm3 hc
      obtain ⟨hc1, hc2⟩ := chk_app hc
      obtain ⟨w1, hs', r'⟩ := k1 ι3 H3 m3 l3 rm3 hc1
      obtain ⟨w2, hs2', r2'⟩ := k2 ι3 H3 m3 l3 rm3 hc2
      refine ⟨fun hl => ⟨_, _, hs', hs2', ?_⟩, fun d hd => ?_⟩
      · rw [show (⟨zipD s1.items s2.items, s1.live ++ s2.live⟩ : Src).items = zipD s1.items s2.items from rfl, zipD_len] at hl
        rw [← r'.length, ← r2'.length]; omega
      · obtain ⟨d1, d2, g1, g2, rfl⟩ := zipD_get hd
        obtain ⟨v1, w1, q1⟩ := r'.get g1
        obtain ⟨v2, w2, q2⟩ := r2'.get g2
        refine ⟨⟨_, _, v1, v2, hs', hs2', w1, w2⟩, fun z H4 hy => ?_⟩
        obtain ⟨T, z1, z2, rfl, hT, rfl, y1, y2⟩ := hy
        have y1 := y1 _ hs'
        have y2 := y2 _ hs2'
        rw [w1] at y1; cases y1
        rw [w2] at y2; cases y2
        exact ⟨Le.newAt hT, rm3.newAt hT, new_par hT (.cons q1 (.cons q2 .nil))⟩
    · show (zipD s1.items s2.items).length ≤ _
      rw [zipD_len]
      have := bd2 _ _ (.inl q1)
      rw [← r1.length] at this
      omega


/-! ### range as a thing -/
@[simp] noncomputable def eRg1 (mk : List D → Out) (a : E) (ρ : Env) (m : Mem) : Option (Out × Mem) := (a ρ m).bind fun x => match x.1 with
  | .v (.int j) => if rgOk j then some (mk (upto 0 j.toNat), x.2) else none
  | _ => none
@[simp] noncomputable def eRg2 (mk : List D → Out) (a b : E) (ρ : Env) (m : Mem) : Option (Out × Mem) := (a ρ m).bind fun x => (b ρ x.2).bind fun y => match x.1, y.1 with
  | .v (.int i), .v (.int j) => if rg2Ok i j then some (mk (upto i (j - i).toNat), y.2) else none
  | _, _ => none
def mkL (xs : List D) : Out := .o (.lst xs)
def mkT (xs : List D) : Out := .v (.tup xs)
theorem RVs.upto {K : PySem.W.Frag} {ι : List Addr} {H : Hp} (i j : Int) : RVs K ι H (upto i (j - i).toNat) (rgV i j) := by
  unfold Q.upto rgV
  induction (List.range (j - i).toNat) with
  | nil => exact .nil
  | cons a r ih => exact .cons (.int _) ih
theorem rgOk1 {j : Int} (h : rgOk j) : RgOk 0 j := by
  obtain ⟨h1, h2⟩ := h
  exact ⟨by omega, by omega, by omega, by omega, by omega⟩
theorem rgOk2 {i j : Int} (h : rg2Ok i j) : RgOk i j := by
  obtain ⟨h1, h2, h3, h4, h5⟩ := h
  exact ⟨by omega, by omega, by omega, by omega, by omega⟩
section
variable {X : Cx} {e : Expr} {fa fb : E}
theorem se_lrg1 (h0 : PE X e (tLstRg (tRg1 (tE X.K fa)))) : SE X e (eRg1 mkL fa) := pe_imp h0 fun σ H Q ⟨ι, ρ, m, z, m', rs, rm, hf, k⟩ => by
  obtain ⟨x, h1, hf⟩ := bind_some hf
  split at hf
  · rename_i j e1
    split at hf
    · rename_i hj; cases hf
      refine ⟨ι, ρ, m, x.1, x.2, rs, rm, h1, fun v ι1 H1 l1 rm1 ro1 bd1 => ?_⟩
      rw [e1] at ro1; cases ro1
      have r : RVs X.K ι1 H1 _ _ := RVs.upto 0 j
      rw [Int.sub_zero] at r
      exact ⟨_, rfl, rgOk1 hj, fun q hq bd => k _ ι1 _ (l1.tr rm1 (Le.newAt hq)) (rm1.newAt hq) ((new_lst rm1 hq r).from l1 rm1) bd⟩
    · cases hf
  · cases hf
theorem se_trg1 (h0 : PE X e (tTupRgN (tRg1 (tE X.K fa)))) : SE X e (eRg1 mkT fa) := pe_imp h0 fun σ H Q ⟨ι, ρ, m, z, m', rs, rm, hf, k⟩ => by
  obtain ⟨x, h1, hf⟩ := bind_some hf
  split at hf
  · rename_i j e1
    split at hf
    · rename_i hj; cases hf
      refine ⟨ι, ρ, m, x.1, x.2, rs, rm, h1, fun v ι1 H1 l1 rm1 ro1 bd1 => ?_⟩
      rw [e1] at ro1; cases ro1
      have r : RVs X.K ι1 H1 _ _ := RVs.upto 0 j
      rw [Int.sub_zero] at r
      exact ⟨_, rfl, rgOk1 hj, fun q o hq ho bd => k _ ι1 _ (l1.tr rm1 (Le.newAt hq)) (rm1.newAt hq) (new_tup hq ho r) bd⟩
    · cases hf
  · cases hf
theorem se_lrg2 (h0 : PE X e (tLstRg (tRg2 (tE X.K fa) (tE X.K fb)))) : SE X e (eRg2 mkL fa fb) := pe_imp h0 fun σ H Q ⟨ι, ρ, m, z, m', rs, rm, hf, k⟩ => by
  obtain ⟨x, h1, hf⟩ := bind_some hf
  obtain ⟨y, h2, hf⟩ := bind_some hf
  split at hf
  · rename_i i j e1 e2
    split at hf
    · rename_i hj; cases hf
      refine ⟨ι, ρ, m, x.1, x.2, rs, rm, h1, fun v ι1 H1 l1 rm1 ro1 bd1 => ?_⟩
      refine ⟨ι1, ρ, x.2, y.1, y.2, rs.mono l1, rm1, h2, fun u ι2 H2 l2 rm2 ro2 bd2 => ?_⟩
      rw [e1] at ro1; cases ro1
      rw [e2] at ro2; cases ro2
      exact ⟨_, _, rfl, rfl, rgOk2 hj, fun q hq bd => k _ ι2 _ (l1.tr rm1 (l2.tr rm2 (Le.newAt hq))) (rm2.newAt hq) ((new_lst rm2 hq (RVs.upto i j)).from (l1.tr rm1 l2) rm2) bd⟩
    · cases hf
  · cases hf
theorem se_trg2 (h0 : PE X e (tTupRgN (tRg2 (tE X.K fa) (tE X.K fb)))) : SE X e (eRg2 mkT fa fb) := pe_imp h0 fun σ H Q ⟨ι, ρ, m, z, m', rs, rm, hf, k⟩ => by
  obtain ⟨x, h1, hf⟩ := bind_some hf
  obtain ⟨y, h2, hf⟩ := bind_some hf
  split at hf
  · rename_i i j e1 e2
    split at hf
    · rename_i hj; cases hf
      refine ⟨ι, ρ, m, x.1, x.2, rs, rm, h1, fun v ι1 H1 l1 rm1 ro1 bd1 => ?_⟩
      refine ⟨ι1, ρ, x.2, y.1, y.2, rs.mono l1, rm1, h2, fun u ι2 H2 l2 rm2 ro2 bd2 => ?_⟩
      rw [e1] at ro1; cases ro1
      rw [e2] at ro2; cases ro2
      exact ⟨_, _, rfl, rfl, rgOk2 hj, fun q o hq ho bd => k _ ι2 _ (l1.tr rm1 (l2.tr rm2 (Le.newAt hq))) (rm2.newAt hq) (new_tup hq ho (RVs.upto i j)) bd⟩
    · cases hf
  · cases hf
end
end Q
namespace Q
open PySem L2
/-! ### enumerate of a tuple -/
theorem meets_enumB1 {v : Value} {o : Obj} {H : Heap → Prop} (B : Begins v o H) :
    Meets (Builtin.«enumerate.__new__» ⟨[.type "enumerate", v], []⟩) (fun _ R s => H s.heap ∧
      R (.ok (.ret (.ref (s.heap.push o).objs.size))) { s with heap := (s.heap.push o).push { cls := .type "enumerate", data := .fields #[.none, .bool false, .ref s.heap.objs.size, rawInt 0, .none, .none] } }) :=
  .of_wp fun prog w A R s h => by
    obtain ⟨hp, g, d, tk, os⟩ := s; obtain ⟨h1, h⟩ := h
    have hsub := sub_enumerate
    have q1 : ∀ {A' : Around} {E : Value → Shared → Prop} {Q : Value → Shared → Prop}, Q (.ref hp.objs.size) ⟨hp.push o, g, d, tk, os⟩ → wpAny (model prog w) A' (pyIter v) Q E ⟨hp, g, d, tk, os⟩ :=
      fun q => B.iter prog w _ _ ⟨hp, g, d, tk, os⟩ _ h1 q
    wp_walk using q1
    refine wpAny_stack_any fun st => wpAny_pure ?_
    split
    · rename_i c _ _ _ _ _
      cases (c == Value.type "enumerate")
      · wp_walk using q1
        exact ⟨_, rfl, h⟩
      · wp_walk using q1
        exact ⟨_, rfl, h⟩
    · wp_walk using q1
      exact ⟨_, rfl, h⟩
theorem call_enumB1 {prog : Program} {w : World} {A : Around} {E : Value → Shared → Prop} {s : Shared} {v : Value} {o : Obj} {H : Heap → Prop} {Q : Value → Shared → Prop} (B : Begins v o H) (h1 : H s.heap)
    (h : ∀ h', IsEnum h' (s.heap.objs.size + 1) s.heap.objs.size 0 .none → h'.get? s.heap.objs.size = some o → h'.objs.size = s.heap.objs.size + 2 →
      (∀ b o, s.heap.get? b = some o → h'.get? b = some o) → Q (.ref (s.heap.objs.size + 1)) { s with heap := h' }) :
    wpAny (model prog w) A (call (.type "enumerate") [v]) Q E s := by
  refine callType_new F.called_enumerate (by decide) (F.typeCall_enumerate_1 _) (F.newCall_enumerate_1 _) (fun obj => F.args_object_init_2 obj _) F.entry_enumerate_new
    (meets_enumB1 B) ⟨h1, ?_⟩
  have hz : (s.heap.push o).objs.size = s.heap.objs.size + 1 := Heap.size_push ..
  show _ ∧ _
  rw [hz]
  have he : IsEnum ((s.heap.push o).push { cls := .type "enumerate", data := .fields #[.none, .bool false, .ref s.heap.objs.size, rawInt 0, .none, .none] }) (s.heap.objs.size + 1) s.heap.objs.size 0 .none := by
    have := Heap.get?_push_size (s.heap.push o) (o := { cls := .type "enumerate", data := .fields #[.none, .bool false, .ref s.heap.objs.size, rawInt 0, .none, .none] }) rfl
    rw [hz] at this; exact this
  refine ⟨⟨_, he, rfl⟩, h _ he (Heap.get?_push_of_some _ (Heap.get?_push_size _ B.free)) (by rw [Heap.size_push, hz]) fun b o x => Heap.get?_push_of_some _ (Heap.get?_push_of_some _ x)⟩
theorem draws_end {prog : Program} {w : World} {A : Around} {it t : Addr} {items : Array Value} {i : Nat} (hh : A.handled = none) (hx : items[i]? = none) :
    Draws prog w A it [it, t] i (fun _ _ => False) (fun j h => j = i ∧ h.IsTupleIter it t i ∧ h.IsTuple t items) where
  live := fun _ _ st => let ⟨o, ho, _⟩ := st.2.1; ⟨o, ho⟩
  frame := fun _ _ _ st hk => ⟨st.1, st.2.1.at fun o e => hk it (by simp) o e, st.2.2.at fun o e => hk t (by simp) o e⟩
  item := fun j s Q E hi st hQ => absurd st.1 (Nat.ne_of_lt hi)
  done := fun s Q E st hE => wpAny_nextOf_tuple_end hh st.2.1 st.2.2 hx hE
/-- the tuple at a, each item in a new pair -/
def IteT (K : PySem.W.Frag) (a : Addr) : It :=
  ⟨fun i H => ∃ (xs : List V) (x : V), SqT K H a xs ∧ xs[i]? = some x, fun i H v H' => ∃ T x, v = .ref T ∧ H T = none ∧ H' = upd H T (.tup [.int (i : Nat), x]) ∧ ∀ xs, SqT K H a xs → xs[i]? = some x, fun i H => ∃ xs : List V, SqT K H a xs ∧ xs.length ≤ i⟩
theorem turn_enumT {P : Program} {w : World} {K : PySem.W.Frag} {elts : List Expr} {kk : Nat} {tpos : Pos} (a e it : Addr) :
    Turn P w K (.Tuple elts kk tpos) (IteT K a) [e, it] e (fun i h => (∃ old, IsEnum h e it ((i : Nat) : Int) old) ∧ h.IsTupleIter it a i ∧ e ≠ it ∧ a ≠ it ∧ e ≠ a) where
  mem := by simp
  obj := fun i h st b hb => by
    obtain ⟨⟨old, he⟩, ⟨o, ho, hc, hd⟩, _⟩ := st
    have e' : b = e ∨ b = it := by simpa using hb
    rcases e' with z | z
    · rw [z]; exact ⟨_, he, fun v q => nomatch q⟩
    · rw [z]; exact ⟨o, ho, fun v q => by rw [hd] at q; cases q⟩
  keep := fun i h h' st k => let ⟨⟨old, he⟩, hi, hne⟩ := st; ⟨⟨old, k e (by simp) _ he⟩, hi.at fun o q => k it (by simp) o q, hne⟩
  item := by
    intro X hP hw hK hc i pins s σ H E I hf st hg
    subst hP hw hK
    obtain ⟨⟨old, he⟩, hit, hne, hai, hea⟩ := st
    obtain ⟨xs, x, hq, hx⟩ := hg
    obtain ⟨its, rv, p, hz⟩ := I.tuple hq
    obtain ⟨u, hu, ru⟩ := rv.get hx
    have hel : e < s.heap.objs.size := Heap.lt_size he
    have hil : it < s.heap.objs.size := by obtain ⟨_, q, _⟩ := hit; exact Heap.lt_size q
    have hlt : i < its.toArray.size := by
      rw [List.size_toArray]
      exact (List.getElem?_eq_some_iff.mp hu).1
    have hA : X.A.in1.handled = none := by
      have := I.ok.hd hc
      simp [this]
    refine wpAny_pyNext_enum_itemD (Draws.tuple (items := its.toArray) hA it a hai) he ⟨hit, p⟩ hlt hne (by simp; exact ⟨hne, hea⟩) fun y h' tk hP ho hst' hT hsz hk => ?_
    have ey : y = u := by
      have : its.toArray[i]? = some u := by simpa using hu
      rw [this] at hP
      exact (Option.some.inj hP).symm
    subst ey
    have hit' := hst'.1
    refine ⟨_, rfl, wpAny_letOwnedTupleGo_enum (s := { s with heap := h', toks := tk + 1 }) ho fun h'' he' sb => ?_⟩
    have hT2 : h''.get? s.heap.objs.size = some { cls := .type "tuple", data := .seq #[.int i tk, y] } := (sb.2 _ (Nat.ne_of_gt hel)).trans hT
    have new : ObjOk X.prog X.w (upd H s.heap.objs.size (.tup [.int (i : Nat), x])) h'' s.heap.objs.size (.tup [.int (i : Nat), x]) :=
      ⟨by show 2 ≤ sizeLine; decide, [.int i tk, y], .cons ⟨_, rfl⟩ (.cons ru .nil), ⟨_, hT2, rfl, _, rfl⟩⟩
    have I1 : Inv X pins σ (upd H s.heap.objs.size (.tup [.int (i : Nat), x])) { s with heap := h'', toks := tk + 1 } :=
      I.turnedNew (ch := [e, it]) (fun b ob hb q => (sb.2 b (fun z => hb (by simp [z]))).trans (hk b ob (fun z => hb (by simp [z])) (fun z => hb (by simp [z])) q)) hf (Nat.le_refl _) new
    refine ⟨.ref s.heap.objs.size, _, I1, rfl, ⟨_, x, rfl, I.hok.fresh (Nat.le_refl _), rfl, fun ys hy => by rw [I.tuple_inj hy hq]; exact hx⟩, ⟨⟨y, ?_⟩, hit'.at fun o q => (sb.2 it (Ne.symm hne)).trans q, hne, hai, hea⟩, fun b hb => ?_⟩
    · have e1 : ((i + 1 : Nat) : Int) = (i : Int) + 1 := by omega
      rw [e1]; exact he'
    · have hb' : b < s.heap.objs.size := by
        have e' : b = e ∨ b = it := by simpa using hb
        rcases e' with z | z
        · rw [z]; exact hel
        · rw [z]; exact hil
      rw [upd_ne (Nat.ne_of_lt hb')]
      exact (hf b hb).1
  done := by
    intro X hP hw hK hc i pins s σ H E I hf st hg
    subst hP hw hK
    obtain ⟨⟨old, he⟩, hit, hne, hai, hea⟩ := st
    obtain ⟨xs, hq, hx⟩ := hg
    obtain ⟨its, rv, p, hz⟩ := I.tuple hq
    obtain ⟨f0, f1, f2, f3, f4, f5⟩ := hf it (by simp)
    have hl := rv.length
    have hA : X.A.in1.handled = none := by
      have := I.ok.hd hc
      simp [this]
    have hi : its.toArray[i]? = none := by simp; omega
    refine wpAny_pyNext_enum_endD (draws_end hA hi) he ⟨rfl, hit, p⟩ fun h' eb => ⟨rfl, I.turned (t' := s.toks) (fun b o hb q => eb b o hb q) f0 f1 f3 f4 f5⟩
  self := fun A i s Q E st h => let ⟨⟨_, he⟩, _⟩ := st; wpAny_pyIter_enum he h
def iEnumT (K : PySem.W.Frag) (ta : TA) : TI := fun σ H R => ta σ H fun vs H1 => ∃ a xs, vs = [.ref a] ∧ SqT K H1 a xs ∧ R (IteT K a) H1
theorem pi_enumT {X : Cx} {e : Expr} {ta : TA} {p pos tpos : Pos} {elts : List Expr} {kk : Nat} (hg : Gl X "enumerate") (hm : X.mg "enumerate" = none) (ha : PA X [e] ta) (hs : starEach [e] X.env = [(false, eval e X.env)] := by rfl) :
    PI X (.Tuple elts kk tpos) (.Call (.Name "enumerate" p) [e] [] pos) (iEnumT X.K ta) := by
  refine ⟨fun pins s σ H R I h => ?_⟩
  refine PyProof.Rows.Call_ (ld_blt I hg hm PyProof.Rows.boot_enumerate (PyProof.Rows.callWith_type1 (thn (ha.run pos pins s σ H _ I h) fun us s1 ⟨vs, H1, I1, r1, q1⟩ => ?_) hs rfl))
  obtain ⟨a, xs, ex, hq, q⟩ := q1
  subst ex
  cases r1 with
  | cons r rr =>
    cases rr
    cases r
    obtain ⟨its, rv, p', hz⟩ := I1.tuple hq
    have hal : a < s1.heap.objs.size := by obtain ⟨o, ho, _⟩ := p'; exact Heap.lt_size ho
    refine call_enumB1 (begins_tuple a its.toArray) p' fun h' he hit hsz hk => wpAny_pyIter_enum he ?_
    have I2 : Inv X pins σ H1 { s1 with heap := h' } := I1.kept (t' := s1.toks) hk
    refine ⟨s1.heap.objs.size + 1, [s1.heap.objs.size + 1, s1.heap.objs.size], _, _, H1, rfl, I2, turn_enumT a (s1.heap.objs.size + 1) s1.heap.objs.size, ⟨⟨.none, he⟩, ⟨_, hit, rfl, rfl⟩, Nat.succ_ne_self _, Nat.ne_of_lt hal, Nat.ne_of_gt (Nat.lt_succ_of_lt hal)⟩, fun b hb => ?_, q⟩
    have e' : b = s1.heap.objs.size + 1 ∨ b = s1.heap.objs.size := by simpa using hb
    have hle : s1.heap.objs.size ≤ b := by
      rcases e' with z | z
      · rw [z]; exact Nat.le_add_right _ _
      · rw [z]; exact Nat.le_refl _
    exact I1.fpOk hle (I1.hok.fresh hle)
/-! ### enumerate as a walk -/
def enumD : Nat → List D → List D
  | _, [] => []
  | i, x :: xs => .par [.int (i : Nat), x] :: enumD (i + 1) xs
theorem enumD_len : ∀ (i : Nat) (xs : List D), (enumD i xs).length = xs.length
  | _, [] => rfl
  | i, x :: xs => by simp [enumD, enumD_len (i + 1) xs]
theorem enumD_get : ∀ {k : Nat} {xs : List D} {i : Nat} {d : D}, (enumD k xs)[i]? = some d → ∃ x, xs[i]? = some x ∧ d = .par [.int ((k + i : Nat) : Int), x]
  | _, [], _, _, h => by simp [enumD] at h
  | k, x :: xs, 0, d, h => by simp [enumD] at h; exact ⟨x, rfl, h.symm⟩
  | k, x :: xs, i + 1, d, h => by
    obtain ⟨a, e1, e3⟩ := enumD_get (k := k + 1) (xs := xs) (i := i) (d := d) (by simpa [enumD] using h)
    refine ⟨a, by simpa using e1, ?_⟩
    rw [e3, show k + 1 + i = k + (i + 1) by omega]
def enumOf (x : Out) (m : Mem) : Option Src := match x with
  | .v (.tup a) => some ⟨enumD 0 a, []⟩
  | x => (lsrc x m).bind fun s => some ⟨enumD 0 s.items, s.live⟩
@[simp] def iEnumE (a : E) (ρ : Env) (m : Mem) : Option (Src × Mem) := (a ρ m).bind fun x => (enumOf x.1 x.2).bind fun s => some (s, x.2)
theorem si_enum {X : Cx} {tg e : Expr} {fa : E} (h : PI X tg e (fun σ H R => iEnum X.K (tCons (tE X.K fa) tNil) σ H R ∨ iEnumT X.K (tCons (tE X.K fa) tNil) σ H R)) : SI X tg e (iEnumE fa) := pi_imp h fun σ H R ⟨ι, ρ, m, s, m', rs, rm, hf, k⟩ => by
  obtain ⟨x, h1, hf⟩ := bind_some hf
  obtain ⟨s', h3, hf⟩ := bind_some hf
  cases hf
  unfold enumOf at h3
  split at h3
  · rename_i a e1; cases h3
    refine .inr ⟨ι, ρ, m, x.1, x.2, rs, rm, h1, fun v ι1 H1 l1 rm1 ro1 bd1 => ?_⟩
    rw [e1] at ro1
    cases ro1 with
    | tup hs r =>
      refine ⟨_, _, rfl, hs.sq, fun bd => k _ ι1 H1 l1 rm1 ?_ bd ?_⟩
      · intro ι3 H3 m3 i l3 rm3 _
        have hs' := (l3.k.rdT hs).sq
        have r' := r.mono l3
        refine ⟨fun hl => ?_, fun d hd => ?_⟩
        · refine ⟨_, hs', ?_⟩
          rw [show (⟨enumD 0 a, []⟩ : Src).items = enumD 0 a from rfl, enumD_len] at hl
          rw [← r'.length]; exact hl
        · obtain ⟨d1, g1, rfl⟩ := enumD_get hd
          obtain ⟨v1, w1, q1⟩ := r'.get g1
          refine ⟨⟨_, v1, hs', w1⟩, fun z H4 hy => ?_⟩
          obtain ⟨T, z1, rfl, hT, rfl, y1⟩ := hy
          have y1 := y1 _ hs'
          rw [w1] at y1; cases y1
          rw [Nat.zero_add]
          exact ⟨Le.newAt hT, rm3.newAt hT, new_par hT (.cons (.int _) (.cons q1 .nil))⟩
      · show (enumD 0 a).length ≤ _
        rw [enumD_len, r.length]
        exact bd1 _ _ (.inr hs.sq)
  · obtain ⟨s1, h4, h3⟩ := bind_some h3
    cases h3
    refine .inl ⟨ι, ρ, m, x.1, x.2, rs, rm, h1, fun v ι1 H1 l1 rm1 ro1 bd1 => ?_⟩
    obtain ⟨a1, vs1, rfl, q1, r1, k1⟩ := lsrc_at rm1 ro1 h4
    refine ⟨_, _, rfl, q1, fun bd => k _ ι1 H1 l1 rm1 ?_ bd ?_⟩
    · intro ι3 H3 m3 i l3 rm3 hc
      obtain ⟨w1, hs', r'⟩ := k1 ι3 H3 m3 l3 rm3 hc
      refine ⟨fun hl => ⟨_, hs', ?_⟩, fun d hd => ?_⟩
      · rw [show (⟨enumD 0 s1.items, s1.live⟩ : Src).items = enumD 0 s1.items from rfl, enumD_len] at hl
        rw [← r'.length]; exact hl
      · obtain ⟨d1, g1, rfl⟩ := enumD_get hd
        obtain ⟨v1, w1, q1⟩ := r'.get g1
        refine ⟨⟨_, v1, hs', w1⟩, fun z H4 hy => ?_⟩
        obtain ⟨T, z1, rfl, hT, rfl, y1⟩ := hy
        have y1 := y1 _ hs'
        rw [w1] at y1; cases y1
        rw [Nat.zero_add]
        exact ⟨Le.newAt hT, rm3.newAt hT, new_par hT (.cons (.int _) (.cons q1 .nil))⟩
    · show (enumD 0 s1.items).length ≤ _
      rw [enumD_len, r1.length]
      exact bd1 _ _ (.inl q1)
end Q
namespace Q
open PySem L2
/-! ### x += e, x -= e -/
theorem augI {K : PySem.W.Frag} {g : Int → Int → Int} {f : F2} (hf : ∀ x y m z, f x y m = some z → ∃ i j, x = .v (.int i) ∧ y = .v (.int j) ∧ z = (.v (.int (g i j)), m)) : R2S K (ipI g) f := by
  intro ι H H0 m x y z vx vy m' Q rm bd rx ry h k
  obtain ⟨i, j, rfl, rfl, e⟩ := hf _ _ _ _ h
  cases e; cases rx; cases ry
  exact ⟨_, _, rfl, rfl, k _ ι H (Le.refl _ _) rm (RV.int _)⟩
def augAdd (x y : Out) (m : Mem) : Option (Out × Mem) := match x, y with
  | .v (.int i), .v (.int j) => some (.v (.int (i + j)), m)
  | _, _ => none
def augSub (x y : Out) (m : Mem) : Option (Out × Mem) := match x, y with
  | .v (.int i), .v (.int j) => some (.v (.int (i - j)), m)
  | _, _ => none
theorem augAddU {K : PySem.W.Frag} : R2S K (ipI fun i j => i + j) augAdd := augI fun x y m z h => by
  unfold augAdd at h
  split at h
  · cases h; exact ⟨_, _, rfl, rfl, rfl⟩
  · cases h
theorem augSubU {K : PySem.W.Frag} : R2S K (ipI fun i j => i - j) augSub := augI fun x y m z h => by
  unfold augSub at h
  split at h
  · cases h; exact ⟨_, _, rfl, rfl, rfl⟩
  · cases h
@[simp] theorem augAdd_int (i j : Int) (m : Mem) : augAdd (.v (.int i)) (.v (.int j)) m = some (.v (.int (i + j)), m) := rfl
@[simp] theorem augSub_int (i j : Int) (m : Mem) : augSub (.v (.int i)) (.v (.int j)) m = some (.v (.int (i - j)), m) := rfl
/-! ### walks and ranges, short -/
section
variable {X : Cx} {e a b c : Expr} {es : List Expr} {pos p p2 q tpos : Pos} {fa fb fc : E} {elts : List Expr} {kk : Nat}
theorem zip_ (hm : X.mg "zip" = none) (ha : SE X a fa) (hb : SE X b fb) (hg : Gl X "zip" := by rfl) (hs : starEach [a, b] X.env = (false, eval a X.env) :: starEach [b] X.env := by rfl) (hs2 : starEach [b] X.env = (false, eval b X.env) :: starEach [] X.env := by rfl)
    (hpl : (backTo pos (starEach [b] X.env)).any (·.1) = false := by rfl) : SI X (.Tuple elts kk tpos) (.Call (.Name "zip" p) [a, b] [] pos) (iZip fa fb) := si_zip (RZ.pi_zipA hg hm (pa2 ha hb hs hs2) hs hpl)
theorem enum_ (hm : X.mg "enumerate" = none) (ha : SE X a fa) (hg : Gl X "enumerate" := by rfl) (hs : starEach [a] X.env = [(false, eval a X.env)] := by rfl) : SI X (.Tuple elts kk tpos) (.Call (.Name "enumerate" p) [a] [] pos) (iEnumE fa) :=
  si_enum (pi_or2 (pi_enum hg hm (pa_cons ha pa_nil hs) hs) (pi_enumT hg hm (pa_cons ha pa_nil hs) hs))
theorem lrg1_ (hl : X.mg "list" = none) (hm : X.mg "range" = none) (ha : SE X a fa) (hc : X.calm = true := by rfl) (hgl : Gl X "list" := by rfl) (hg : Gl X "range" := by rfl) (na : starEach [a] X.env = (false, eval a X.env) :: starEach [] X.env := by rfl)
    (ne : starEach [.Call (.Name "range" p) [a] [] pos] X.env = (false, eval (.Call (.Name "range" p) [a] [] pos) X.env) :: starEach [] X.env := by rfl) : SE X (.Call (.Name "list" p2) [.Call (.Name "range" p) [a] [] pos] [] q) (eRg1 mkL fa) := se_lrg1 (pe_listRg hc hgl hl (prg_1 hg hm ha na) ne)
theorem trg1_ (hl : X.mg "tuple" = none) (hm : X.mg "range" = none) (ha : SE X a fa) (hc : X.calm = true := by rfl) (hgl : Gl X "tuple" := by rfl) (hg : Gl X "range" := by rfl) (na : starEach [a] X.env = (false, eval a X.env) :: starEach [] X.env := by rfl)
    (ne : starEach [.Call (.Name "range" p) [a] [] pos] X.env = (false, eval (.Call (.Name "range" p) [a] [] pos) X.env) :: starEach [] X.env := by rfl) : SE X (.Call (.Name "tuple" p2) [.Call (.Name "range" p) [a] [] pos] [] q) (eRg1 mkT fa) := se_trg1 (pe_tupRgN hc hgl hl (prg_1 hg hm ha na) ne)
theorem lrg2_ (hl : X.mg "list" = none) (hm : X.mg "range" = none) (ha : SE X a fa) (hb : SE X b fb) (hc : X.calm = true := by rfl) (hgl : Gl X "list" := by rfl) (hg : Gl X "range" := by rfl) (na : starEach [a, b] X.env = (false, eval a X.env) :: starEach [b] X.env := by rfl)
    (nb : starEach [b] X.env = (false, eval b X.env) :: starEach [] X.env := by rfl) (hpl : (backTo pos (starEach [b] X.env)).any (·.1) = false := by rfl)
    (ne : starEach [.Call (.Name "range" p) [a, b] [] pos] X.env = (false, eval (.Call (.Name "range" p) [a, b] [] pos) X.env) :: starEach [] X.env := by rfl) : SE X (.Call (.Name "list" p2) [.Call (.Name "range" p) [a, b] [] pos] [] q) (eRg2 mkL fa fb) := se_lrg2 (pe_listRg hc hgl hl (prg_2 hg hm ha hb na nb hpl) ne)
theorem trg2_ (hl : X.mg "tuple" = none) (hm : X.mg "range" = none) (ha : SE X a fa) (hb : SE X b fb) (hc : X.calm = true := by rfl) (hgl : Gl X "tuple" := by rfl) (hg : Gl X "range" := by rfl) (na : starEach [a, b] X.env = (false, eval a X.env) :: starEach [b] X.env := by rfl)
    (nb : starEach [b] X.env = (false, eval b X.env) :: starEach [] X.env := by rfl) (hpl : (backTo pos (starEach [b] X.env)).any (·.1) = false := by rfl)
    (ne : starEach [.Call (.Name "range" p) [a, b] [] pos] X.env = (false, eval (.Call (.Name "range" p) [a, b] [] pos) X.env) :: starEach [] X.env := by rfl) : SE X (.Call (.Name "tuple" p2) [.Call (.Name "range" p) [a, b] [] pos] [] q) (eRg2 mkT fa fb) := se_trg2 (pe_tupRgN hc hgl hl (prg_2 hg hm ha hb na nb hpl) ne)
end
/-! ### a def that calls itself -/
theorem ss_none {X : Cx} {sts : List Stmt} : SSs X sts (fun _ _ => none) := ⟨fun pins s σ H D I h => by
  obtain ⟨ι, ρ, m, r, rs, rm, hf, _⟩ := h
  cases hf⟩
end Q

/-! dicts whose keys are any things of None, whole numbers, texts and tuples of such, in the machine's own words -/
namespace DV
open PySem
abbrev NE := NestedKey × Value × Value
def entV (w : World) (x : NE) : DictEntry := ⟨x.1.hash w, x.2.1, x.2.2⟩
def VIs (h : Heap) (k : NestedKey) (v : Value) : Prop := NestedIs h k v ∧ k.depth ≤ 8
def atV (xs : List NE) (k : NestedKey) : Option Value := (xs.find? fun x => decide (x.1 = k)).map (·.2.2)
def putV (k : NestedKey) (v : Value) (x : NE) : NE := if x.1 = k then (x.1, x.2.1, v) else x
def stoV (xs : List NE) (k : NestedKey) (key v : Value) : List NE := if (atV xs k).isSome then xs.map (putV k v) else xs ++ [(k, key, v)]
theorem stoV_new {xs : List NE} {k : NestedKey} (h : atV xs k = none) (a : Value) (v : Value) : stoV xs k a v = xs ++ [(k, a, v)] := by simp [stoV, h]
theorem stoV_old {xs : List NE} {k : NestedKey} {p : Value} (h : atV xs k = some p) (a : Value) (v : Value) : stoV xs k a v = xs.map (putV k v) := by simp [stoV, h]
theorem idx_unique {xs : List NE} (hn : (xs.map (·.1)).Nodup) : ∀ {i j : Nat} {k : NestedKey} {p q : Value × Value}, xs[i]? = some (k, p) → xs[j]? = some (k, q) → i = j := by
  intro i j k p q hi hj
  have hi' : (xs.map (·.1))[i]? = some k := by rw [List.getElem?_map, hi]; rfl
  have hj' : (xs.map (·.1))[j]? = some k := by rw [List.getElem?_map, hj]; rfl
  exact (List.getElem?_inj (List.getElem?_eq_some_iff.mp hi').1 hn).mp (hi'.trans hj'.symm)
theorem at_of_get {xs : List NE} (hn : (xs.map (·.1)).Nodup) {i : Nat} {k : NestedKey} {p : Value × Value} (hx : xs[i]? = some (k, p)) : atV xs k = some p.2 := by
  induction xs generalizing i with
  | nil => simp at hx
  | cons x rest ih =>
    rw [List.map_cons, List.nodup_cons] at hn
    cases i with
    | zero =>
      simp only [List.getElem?_cons_zero, Option.some.injEq] at hx
      subst hx; simp [atV]
    | succ j =>
      simp only [List.getElem?_cons_succ] at hx
      have hmem : k ∈ rest.map (·.1) := List.mem_map.mpr ⟨(k, p), List.mem_of_getElem? hx, rfl⟩
      have hne : ¬ x.1 = k := fun e => hn.1 (e ▸ hmem)
      have := ih hn.2 hx
      simpa [atV, List.find?_cons, hne] using this
theorem at_none {xs : List NE} {k : NestedKey} (h : ∀ (j : Nat) (p : Value × Value), xs[j]? ≠ some (k, p)) : atV xs k = none := by
  have : (xs.find? fun x => decide (x.1 = k)) = none := by
    rw [List.find?_eq_none]
    intro x hx hk
    obtain ⟨j, hj⟩ := List.mem_iff_getElem?.mp hx
    have hk' : x.1 = k := of_decide_eq_true hk
    exact h j x.2 (by rw [hj, ← hk'])
  simp [atV, this]
theorem not_mem_of {xs : List NE} {k : NestedKey} (h : ∀ (j : Nat) (p : Value × Value), xs[j]? ≠ some (k, p)) : k ∉ xs.map (·.1) := by
  intro hm
  obtain ⟨x, hx, rfl⟩ := List.mem_map.mp hm
  obtain ⟨j, hj⟩ := List.mem_iff_getElem?.mp hx
  exact h j x.2 hj
theorem map_put_not (xs : List NE) (k : NestedKey) (v : Value) (hn : k ∉ xs.map (·.1)) : xs.map (putV k v) = xs := by
  induction xs with
  | nil => rfl
  | cons x xs ih =>
    simp only [List.map_cons, List.mem_cons, not_or] at hn ⊢
    rw [putV, if_neg (fun e => hn.1 e.symm), ih hn.2]
theorem keys_put (xs : List NE) (k : NestedKey) (v : Value) : (xs.map (putV k v)).map (·.1) = xs.map (·.1) := by
  induction xs with
  | nil => rfl
  | cons x xs ih =>
    simp only [List.map_cons, ih]
    by_cases hk : x.1 = k <;> simp [putV, hk]
theorem modify_put {β : Type} (f : NE → β) (g : β → β) (k : NestedKey) (v : Value) (hg : ∀ a v₀, g (f (k, a, v₀)) = f (k, a, v)) :
    ∀ {xs : List NE} {j : Nat} {p : Value × Value}, (xs.map (·.1)).Nodup → xs[j]? = some (k, p) → (xs.map f).modify j g = (xs.map (putV k v)).map f := by
  intro xs
  induction xs with
  | nil => intro j p _ hj; simp at hj
  | cons x rest ih =>
    intro j p hn hj
    rw [List.map_cons, List.nodup_cons] at hn
    cases j with
    | zero =>
      simp only [List.getElem?_cons_zero, Option.some.injEq] at hj
      subst hj
      rw [List.map_cons, List.map_cons, map_put_not rest k v hn.1, putV, if_pos rfl, List.map_cons]
      show g (f (k, p)) :: rest.map f = f (k, p.1, v) :: rest.map f
      rw [show (k, p) = (k, p.1, p.2) from rfl, hg]
    | succ j =>
      simp only [List.getElem?_cons_succ] at hj
      have hmem : k ∈ rest.map (·.1) := List.mem_map.mpr ⟨(k, p), List.mem_of_getElem? hj, rfl⟩
      have hne : ¬ x.1 = k := fun e => hn.1 (e ▸ hmem)
      rw [List.map_cons, List.map_cons, putV, if_neg hne, List.map_cons]
      show f x :: (rest.map f).modify j g = f x :: (rest.map (putV k v)).map f
      rw [ih hn.2 hj]
theorem entry_at {w : World} {es : Array DictEntry} {xs : List NE} (he : es.toList = xs.map (entV w)) (j : Nat) : es[j]? = (xs[j]?).map (entV w) := by
  rw [← Array.getElem?_toList, he, List.getElem?_map]
theorem size_of {w : World} {es : Array DictEntry} {xs : List NE} (he : es.toList = xs.map (entV w)) : es.size = xs.length := by
  rw [← Array.length_toList, he, List.length_map]
theorem VIs.keeps {h h' : Heap} {k : NestedKey} {v : Value} {d : Addr} {o : Obj} {es : Array DictEntry} {ep : Nat} (x : VIs h k v) (ho : h.get? d = some o) (hd : o.data = .dict es ep) (hs : Heap.SameBut d h h') : VIs h' k v :=
  ⟨NestedIs.at (fun b ob vs n hb hc => by
    refine (hs.2 b fun e => ?_).trans hb
    subst e
    rw [ho] at hb
    cases hb
    rw [hd] at hc
    cases hc) k _ x.1, x.2⟩
section
variable {prog : Program} {w : World} {A : Around} {E : Value → Shared → Prop} {s : Shared}
theorem tells {key : Value} {k : NestedKey} {stored : List Value} {Q : Bool → Shared → Prop} (hkey : VIs s.heap k key)
    (hst : ∀ v ∈ stored, ∃ k', VIs s.heap k' v) (h : Q false s) : wpAny (model prog w) A (tableMayTell key stored) Q E s := by
  unfold tableMayTell
  split
  · exact wpAny_pure h
  · refine wpAny_bind (quiet_key k _ 8 s hkey.1 hkey.2 A E _ ?_)
    simp only [Bool.not_true, Bool.false_eq_true, if_false]
    refine wpAny_bind ?_
    refine wpAny_forIn_list _ (fun rest r s' => s' = s ∧ r = (none, ()) ∧ ∀ v ∈ rest, ∃ k', VIs s.heap k' v) _ ?_ ?_ _ _ ⟨rfl, rfl, hst⟩
    · rintro x rest r s' ⟨rfl, rfl, hr⟩
      obtain ⟨k', hb⟩ := hr x List.mem_cons_self
      refine wpAny_bind (quiet_key k' _ 8 _ hb.1 hb.2 A E _ ?_)
      simp only [Bool.not_true, Bool.false_eq_true, if_false]
      exact wpAny_pure ⟨rfl, rfl, fun v hv => hr v (List.mem_cons_of_mem _ hv)⟩
    · rintro r s' ⟨rfl, rfl, _⟩
      exact wpAny_pure h
theorem eqb {x y : NestedKey} {a b : Value} {Q : Bool → Shared → Prop} (hu : A.units + 8 < cLine) (hx : VIs s.heap x a) (hy : VIs s.heap y b) (h : Q (decide (x = y)) s) : wpAny (model prog w) A (PySem.eqBool a b) Q E s :=
  eqAt_key x y A s _ _ hx.1 hy.1 (by have := hx.2; have := hy.2; omega) _ _ _ _ (by rw [← NestedKey.decide_eq]; exact h)
theorem hsh {k : NestedKey} {a : Value} {Q : Int → Shared → Prop} (hu : A.units + 8 < cLine) (hx : VIs s.heap k a) (h : Q (k.hash w) { s with toks := s.toks + k.draws }) : wpAny (model prog w) A (PySem.pyHash a) Q E s :=
  pyHash_key _ _ _ _ _ hx.1 (by have := hx.2; omega) h
set_option maxHeartbeats 4000000 in
theorem find {d : Addr} {key : Value} {o : Obj} {es : Array DictEntry} {ep : Nat} {xs : List NE} {k : NestedKey} {Q : Option Nat → Shared → Prop} (hu : A.units + 8 < cLine) (hkey : VIs s.heap k key)
    (ho : s.heap.get? d = some o) (hd : o.data = .dict es ep) (he : es.toList = xs.map (entV w)) (his : ∀ x ∈ xs, VIs s.heap x.1 x.2.1) (hn : (xs.map (·.1)).Nodup)
    (hnone : (∀ (j : Nat) (p : Value × Value), xs[j]? ≠ some (k, p)) → Q none s) (hsome : ∀ (j : Nat) (p : Value × Value), xs[j]? = some (k, p) → Q (some j) s) :
    wpAny (model prog w) A (dictFind d key (k.hash w)) Q E s := by
  have hsz : es.size = xs.length := size_of he
  have haskey : ∀ (j : Nat) (p : Value × Value), xs[j]? = some (k, p) → ((es[j]?.map (·.hash)) == some (k.hash w)) = true := by
    intro j p hj
    rw [entry_at he j, hj]
    simp [entV]
  have hmem : ∀ e ∈ es, ∃ x ∈ xs, e = entV w x := by
    intro e hin
    have : e ∈ xs.map (entV w) := he ▸ Array.mem_toList_iff.mpr hin
    obtain ⟨x, hx, rfl⟩ := List.mem_map.mp this
    exact ⟨x, hx, rfl⟩
  have hst : ∀ v ∈ (placesWithHash es.size (fun i => es[i]?.map (·.hash)) (k.hash w)).filterMap (fun i => es[i]?.map (·.key)), ∃ k', VIs s.heap k' v := by
    intro v hv
    obtain ⟨i, _, hi⟩ := List.mem_filterMap.mp hv
    cases hei : es[i]? with
    | none => rw [hei] at hi; cases hi
    | some e =>
      rw [hei] at hi
      obtain rfl : e.key = v := by simpa using hi
      obtain ⟨x, hx, rfl⟩ := hmem e (Array.mem_of_getElem? hei)
      exact ⟨x.1, his x hx⟩
  -- what is known behind the places up to x
  have later : ∀ (i x : Nat) (rest : List Nat), x :: rest = (List.range' i (es.size - i)).filter (fun i => (es[i]?.map (·.hash)) == some (k.hash w)) → i ≤ es.size →
      i ≤ x ∧ x < es.size ∧ rest = (List.range' (x + 1) (es.size - (x + 1))).filter (fun i => (es[i]?.map (·.hash)) == some (k.hash w)) ∧ ∀ j, i ≤ j → j < x → ∀ p, xs[j]? ≠ some (k, p) := by
    intro i x rest hr hi
    obtain ⟨hix, hxn, hpx, hskip, hrest⟩ := filter_range'_cons _ _ _ _ _ hr.symm
    refine ⟨hix, by omega, by rw [hrest]; congr 2; omega, fun j h1 h2 p hj => ?_⟩
    have := hskip j h1 h2
    rw [haskey j p hj] at this
    exact absurd this (by decide)
  have ending : ∀ i, [] = (List.range' i (es.size - i)).filter (fun i => (es[i]?.map (·.hash)) == some (k.hash w)) → (∀ j, j < i → ∀ p, xs[j]? ≠ some (k, p)) → ∀ (j : Nat) (p : Value × Value), xs[j]? ≠ some (k, p) := by
    intro i hr hno j p hj
    rcases Nat.lt_or_ge j i with h | h
    · exact hno j h p hj
    · have hjl : j < es.size := by
        rw [hsz]
        rcases Nat.lt_or_ge j xs.length with h' | h'
        · exact h'
        · rw [List.getElem?_eq_none h'] at hj; exact nomatch hj
      have := List.filter_eq_nil_iff.mp hr.symm j (List.mem_range'_1.mpr ⟨h, by omega⟩)
      rw [haskey j p hj] at this
      exact absurd rfl this
  have stay : ∀ (x : Nat) (k' : NestedKey) (hit : Option Nat) (q : Value × Value), ¬ k' = k → xs[x]? = some (k', q) → ((hit = none ∧ ∀ j, j < x → ∀ p, xs[j]? ≠ some (k, p)) ∨ ∃ j p, hit = some j ∧ j < x ∧ xs[j]? = some (k, p)) →
      ((hit = none ∧ ∀ j, j < x + 1 → ∀ p, xs[j]? ≠ some (k, p)) ∨ ∃ j p, hit = some j ∧ j < x + 1 ∧ xs[j]? = some (k, p)) := by
    intro x k' hit q hne hkv hHx
    rcases hHx with ⟨h0, hno⟩ | ⟨j, p, h1, hjx, hj⟩
    · refine .inl ⟨h0, fun j hjx p hj => ?_⟩
      rcases Nat.lt_or_ge j x with h | h
      · exact hno j h p hj
      · have hjx' : j = x := by omega
        subst hjx'
        rw [hkv] at hj
        injection hj with hj
        injection hj with hj
        exact hne hj
    · exact .inr ⟨j, p, h1, by omega, hj⟩
  have plain : wpAny (model prog w) A (dictWalkPlain d key (k.hash w) es (placesWithHash es.size (fun i => es[i]?.map (·.hash)) (k.hash w))) Q E s := by
    refine wpAny_bind ?_
    refine wpAny_forIn_list _
      (fun rest b s' => s' = s ∧ b = (none, ()) ∧ ∃ i, rest = (List.range' i (es.size - i)).filter (fun i => (es[i]?.map (·.hash)) == some (k.hash w)) ∧ i ≤ es.size ∧
        ∀ j, j < i → ∀ p, xs[j]? ≠ some (k, p)) _ ?_ ?_ _ _
      ⟨rfl, rfl, 0, by rw [placesWithHash, List.range_eq_range', Nat.sub_zero], Nat.zero_le _, fun _ h => absurd h (Nat.not_lt_zero _)⟩
    · rintro x rest b s' ⟨rfl, rfl, i, hr, hi, hno⟩
      obtain ⟨hix, hlt, hrest, hskip⟩ := later i x rest hr hi
      obtain ⟨⟨k', b, v'⟩, hkv⟩ : ∃ y, xs[x]? = some y := ⟨xs[x]'(by rw [← hsz]; exact hlt), List.getElem?_eq_getElem _⟩
      have hib : VIs s'.heap k' b := his _ (List.mem_of_getElem? hkv)
      have hex : es[x]? = some ⟨k'.hash w, b, v'⟩ := by rw [entry_at he x, hkv]; rfl
      have hnext : ¬ k' = k → ∀ j, j < x + 1 → ∀ p, xs[j]? ≠ some (k, p) := fun hne j hj p hp => by
        rcases Nat.lt_or_ge j i with h | h
        · exact hno j h p hp
        · rcases Nat.lt_or_ge j x with h' | h'
          · exact hskip j h h' p hp
          · have : j = x := by omega
            subst this
            rw [hkv] at hp
            injection hp with hp
            injection hp with hp
            exact hne hp
      rw [hex]
      dsimp only
      by_cases hh : (k'.hash w == k.hash w) = true
      · rw [if_pos hh]
        refine wpAny_bind (wpAny_dictEpoch ho hd (wpAny_bind (eqb (x := k') (y := k) hu hib hkey (wpAny_bind (wpAny_dictEpoch ho hd ?_)))))
        show wpAny _ _ (if (ep != ep) = true then _ else _) _ E _
        rw [if_neg (by simp)]
        by_cases hkk : k' = k
        · rw [decide_eq_true hkk]
          subst hkk
          exact wpAny_bind (wpAny_rule (wpAny_pure (wpAny_pure (hsome x _ hkv))))
        · rw [decide_eq_false hkk]
          exact wpAny_bind (wpAny_rule (wpAny_pure ⟨rfl, rfl, x + 1, hrest, hlt, hnext hkk⟩))
      · rw [if_neg hh]
        refine wpAny_pure ⟨rfl, rfl, x + 1, hrest, hlt, hnext ?_⟩
        intro hkk
        rw [hkk] at hh; simp at hh
    · rintro b s' ⟨rfl, rfl, i, hr, hi, hno⟩
      exact wpAny_pure (hnone (ending i hr hno))
  unfold dictFind
  try with_reducible refine wpAny_holding ?_
  refine wpAny_bind (wpAny_dictEntries ho hd ?_)
  dsimp only
  have hk0 := hkey.1
  by_cases hall : (key :: (placesWithHash es.size (fun i => es[i]?.map (·.hash)) (k.hash w)).filterMap (fun i => es[i]?.map (·.key))).all carriedByValue = true
  · rw [if_pos hall]
    split
    next x t =>
      split
      next hstrs =>
        cases hk0 with
        | text =>
          unfold foundByValue
          have hkk : ∀ (j : Nat) (e : DictEntry), es[j]? = some e → (e.key.isStr x = true ↔ ∃ p, xs[j]? = some (.text x, p)) := by
            intro j e hj
            rw [entry_at he j] at hj
            obtain ⟨⟨k', b, v'⟩, h1, rfl⟩ := Option.map_eq_some_iff.mp hj
            have h2 := his _ (List.mem_of_getElem? h1)
            constructor
            · intro h3
              have h4 : ∃ u, b = .str x u := by
                cases b <;> first | (simp only [entV, Value.isStr] at h3; cases h3; done) | skip
                rename_i y u
                have : y = x := by simpa [entV, Value.isStr] using h3
                exact ⟨u, by rw [this]⟩
              obtain ⟨u, rfl⟩ := h4
              have : k' = .text x := NestedIs.inj _ _ _ h2.1 (.text x u)
              subst this
              exact ⟨_, h1⟩
            · rintro ⟨p, h3⟩
              rw [h1] at h3
              cases h3
              have h4 := h2.1
              cases h4
              simp [entV, Value.isStr]
          cases hf : es.findIdx? (fun e => e.key.isStr x) with
          | none =>
            refine wpAny_pure (hnone fun j p hj => ?_)
            have hlt : j < es.size := by
              rw [hsz]
              rcases Nat.lt_or_ge j xs.length with h' | h'
              · exact h'
              · rw [List.getElem?_eq_none h'] at hj; exact nomatch hj
            have h1 := Array.findIdx?_eq_none_iff.mp hf es[j] (Array.getElem_mem hlt)
            have h2 := (hkk j es[j] (Array.getElem?_eq_getElem hlt)).mpr ⟨p, hj⟩
            simp [h2] at h1
          | some i =>
            obtain ⟨hlt, hi, _⟩ := Array.findIdx?_eq_some_iff_getElem.mp hf
            obtain ⟨p, hp⟩ := (hkk i es[i] (Array.getElem?_eq_getElem hlt)).mp hi
            have hib : VIs s.heap (.text x) p.1 := his _ (List.mem_of_getElem? hp)
            have hex : es[i].key = p.1 := by
              have := entry_at he i
              rw [Array.getElem?_eq_getElem hlt, hp] at this
              have := Option.some.inj this
              rw [this]; rfl
            simp only [Array.getElem?_eq_getElem hlt]
            rw [hex]
            refine wpAny_bind (wpAny_dictEpoch ho hd (wpAny_bind (eqb hu hib hkey (wpAny_bind (wpAny_dictEpoch ho hd ?_)))))
            show wpAny _ _ (if (ep != ep) = true then _ else _) _ E _
            rw [if_neg (by simp), decide_eq_true rfl]
            exact wpAny_bind (wpAny_rule (wpAny_pure (hsome i p hp)))
      next => exact plain
    next => exact plain
  · rw [if_neg hall]
    have hany : ¬ (es.any fun e => e.key == key && e.hash != k.hash w) = true := by
      rw [← Array.any_toList, List.any_eq_true]
      rintro ⟨e, hin, hc⟩
      obtain ⟨x, hx, rfl⟩ := hmem e (Array.mem_toList_iff.mp hin)
      simp only [entV, Bool.and_eq_true, beq_iff_eq, bne_iff_ne, ne_eq] at hc
      obtain ⟨hxa, hne⟩ := hc
      have := his x hx
      rw [hxa] at this
      exact hne (by rw [NestedIs.inj _ _ _ this.1 hkey.1])
    have hstr : (∀ a, key ≠ .ref a) → ¬ (es.all fun e => isExactStrKey e.key) = true := by
      intro hr hs
      refine hall (List.all_eq_true.mpr fun v hv => ?_)
      rcases List.mem_cons.mp hv with rfl | hv
      · cases v <;> first | rfl | exact absurd rfl (hr _)
      · obtain ⟨i, _, hi⟩ := List.mem_filterMap.mp hv
        cases hei : es[i]? with
        | none => rw [hei] at hi; cases hi
        | some e =>
          rw [hei] at hi
          obtain rfl : e.key = v := by simpa using hi
          have h1 := (Array.all_eq_true_iff_forall_mem.mp hs) e (Array.mem_of_getElem? hei)
          cases hq : e.key <;> first | rfl | (rw [hq] at h1; cases h1)
    rw [if_neg hany]
    have hkc : key = .none ∨ (∃ b, key = .bool b) ∨ (∃ i t, key = .int i t) ∨ (∃ x t, key = .str x t) ∨ ∃ a, key = .ref a := by
      cases hk0 with
      | none => exact .inl rfl
      | bool _ => exact .inr (.inl ⟨_, rfl⟩)
      | int _ _ => exact .inr (.inr (.inl ⟨_, _, rfl⟩))
      | text _ _ => exact .inr (.inr (.inr (.inl ⟨_, _, rfl⟩)))
      | tup _ _ _ _ => exact .inr (.inr (.inr (.inr ⟨_, rfl⟩)))
    clear hk0
    by_cases hone : (((placesWithHash es.size (fun i => es[i]?.map (·.hash)) (NestedKey.hash w k)).filterMap (fun i => es[i]?.map (·.key))) == [key]) = true <;>
    (first | rw [if_pos hone] | rw [if_neg hone]) <;>
    rcases hkc with rfl | ⟨b, rfl⟩ | ⟨i, t, rfl⟩ | ⟨x, t, rfl⟩ | ⟨a, rfl⟩ <;> dsimp only <;>
    (try rw [if_neg (hstr (by intro a h; cases h))]) <;>
    (first | refine wpAny_bind (wpAny_pure ?_) | refine wpAny_bind (tells hkey hst ?_)) <;> (
        rw [if_neg (by simp)]
        refine wpAny_bind ?_
        refine wpAny_forIn_list _
          (fun rest b s' => s' = s ∧ ∃ i hit, b = (none, hit) ∧ rest = (List.range' i (es.size - i)).filter (fun i => (es[i]?.map (·.hash)) == some (NestedKey.hash w k)) ∧ i ≤ es.size ∧
            ((hit = none ∧ ∀ j, j < i → ∀ p, xs[j]? ≠ some (k, p)) ∨ ∃ j p, hit = some j ∧ j < i ∧ xs[j]? = some (k, p))) _ ?_ ?_ _ _
          ⟨rfl, 0, none, rfl, by rw [placesWithHash, List.range_eq_range', Nat.sub_zero], Nat.zero_le _, .inl ⟨rfl, fun _ h => absurd h (Nat.not_lt_zero _)⟩⟩
        · rintro x rest b s' ⟨rfl, i, hit, rfl, hr, hi, hH⟩
          obtain ⟨hix, hlt, hrest, hskip⟩ := later i x rest hr hi
          obtain ⟨⟨k', b, v'⟩, hkv⟩ : ∃ y, xs[x]? = some y := ⟨xs[x]'(by rw [← hsz]; exact hlt), List.getElem?_eq_getElem _⟩
          have hib : VIs s'.heap k' b := his _ (List.mem_of_getElem? hkv)
          have hex : es[x]? = some ⟨k'.hash w, b, v'⟩ := by rw [entry_at he x, hkv]; rfl
          have hHx : (hit = none ∧ ∀ j, j < x → ∀ p, xs[j]? ≠ some (k, p)) ∨ ∃ j p, hit = some j ∧ j < x ∧ xs[j]? = some (k, p) := by
            rcases hH with ⟨h0, hno⟩ | ⟨j, p, h1, hji, hj⟩
            · refine .inl ⟨h0, fun j hjx p hj => ?_⟩
              rcases Nat.lt_or_ge j i with h | h
              · exact hno j h p hj
              · exact hskip j h hjx p hj
            · exact .inr ⟨j, p, h1, by omega, hj⟩
          rw [hex]
          dsimp only
          split
          · refine wpAny_bind (wpAny_dictEpoch ho hd (wpAny_bind (eqb (x := k') (y := k) hu hib hkey (wpAny_bind (wpAny_dictEpoch ho hd ?_)))))
            show wpAny _ _ (if (ep != ep) = true then _ else _) _ E _
            rw [if_neg (by simp)]
            by_cases hkk : k' = k
            · rw [decide_eq_true hkk]
              subst hkk
              rcases hHx with ⟨rfl, _⟩ | ⟨j, p, _, hjx, hj⟩
              · first | rw [if_pos rfl] | skip
                simp only [Option.isSome_none, Bool.false_eq_true, if_false]
                first | refine wpAny_bind (wpAny_pure ?_) | skip
                refine wpAny_bind (wpAny_rule ?_)
                split
                · exact wpAny_pure (wpAny_pure (hsome x _ hkv))
                · exact wpAny_pure ⟨rfl, x + 1, some x, rfl, hrest, hlt, .inr ⟨x, _, rfl, Nat.lt_succ_self x, hkv⟩⟩
              · exact absurd (idx_unique hn hj hkv) (by omega)
            · rw [decide_eq_false hkk]
              simp only [Bool.false_eq_true, if_false]
              refine wpAny_bind (wpAny_rule ?_)
              first | rw [if_neg (by simp)] | skip
              have hstay := stay x k' hit ⟨b, v'⟩ hkk hkv hHx
              first
                | exact wpAny_pure ⟨rfl, x + 1, hit, rfl, hrest, hlt, hstay⟩
                | exact wpAny_bind (wpAny_pure (wpAny_pure ⟨rfl, x + 1, hit, rfl, hrest, hlt, hstay⟩))
          · rename_i hh
            refine wpAny_pure ⟨rfl, x + 1, hit, rfl, hrest, hlt, stay x k' hit ⟨b, v'⟩ ?_ hkv hHx⟩
            intro hkk
            rw [hkk] at hh; simp at hh
        · rintro b s' ⟨rfl, i, hit, rfl, hr, hi, hH⟩
          rcases hH with ⟨rfl, hno⟩ | ⟨j, p, rfl, _, hj⟩
          · exact wpAny_pure (hnone (ending i hr hno))
          · exact wpAny_pure (hsome j p hj))
end
end DV
namespace DV
open PySem
def DOk (w : World) (h : Heap) (d : Addr) (es : Array DictEntry) (xs : List NE) : Prop :=
  ∃ o ep, ep = es.size ∧ h.get? d = some o ∧ o.ExactDict ∧ o.data = .dict es ep ∧ es.toList = xs.map (entV w) ∧ (∀ x ∈ xs, VIs h x.1 x.2.1) ∧ (xs.map (·.1)).Nodup
theorem DOk.typeIs {w : World} {s : Shared} {d : Addr} {es : Array DictEntry} {xs : List NE} (hm : DOk w s.heap d es xs) : s.TypeIs (.ref d) "dict" := let ⟨o, _, _, ho, hc, _⟩ := hm; ⟨o, ho, hc.1⟩
theorem DOk.raw {w : World} {h : Heap} {d : Addr} {es : Array DictEntry} {xs : List NE} (hm : DOk w h d es xs) : DT.Raw h d es es.size := let ⟨o, ep, hep, ho, hc, hd, _⟩ := hm; ⟨o, ho, hc, by rw [← hep]; exact hd⟩
theorem DOk.size {w : World} {h : Heap} {d : Addr} {es : Array DictEntry} {xs : List NE} (hm : DOk w h d es xs) : es.size = xs.length := let ⟨o, ep, hep, ho, hc, hd, he, _⟩ := hm; size_of he
section
variable {prog : Program} {w : World} {A : Around} {E : Value → Shared → Prop} {s : Shared} {d : Addr} {es : Array DictEntry} {xs : List NE} {k : NestedKey} {key : Value}
theorem dget {Q : Option Value → Shared → Prop} (hu : A.units + 8 < cLine) (hkey : VIs s.heap k key) (hm : DOk w s.heap d es xs) (h : Q (atV xs k) { s with toks := s.toks + k.draws }) : wpAny (model prog w) A (dictGet d key) Q E s := by
  obtain ⟨o, ep, hep, ho, _, hd, he, his, hn⟩ := hm
  unfold dictGet
  try with_reducible refine wpAny_holding ?_
  refine wpAny_bind (hsh hu hkey (wpAny_bind (find (s := { s with toks := s.toks + k.draws }) hu hkey ho hd he his hn ?_ ?_)))
  · intro hno
    rw [at_none hno] at h
    exact wpAny_pure h
  · intro j p hj
    rw [at_of_get hn hj] at h
    refine wpAny_bind (wpAny_dictEntries (s := { s with toks := s.toks + k.draws }) ho hd ?_)
    rw [entry_at he j, hj]
    exact wpAny_pure h
theorem push_ok {o : Obj} {ep : Nat} {v : Value} (hep : ep = es.size) (hkey : VIs s.heap k key) (ho : s.heap.get? d = some o) (hc : o.ExactDict) (hd : o.data = .dict es ep) (he : es.toList = xs.map (entV w)) (his : ∀ x ∈ xs, VIs s.heap x.1 x.2.1) (hn : (xs.map (·.1)).Nodup)
    (hno : ∀ (j : Nat) (p : Value × Value), xs[j]? ≠ some (k, p)) (h' : Heap) (hs : Heap.SameBut d s.heap h') (hg : h'.get? d = some (o.mapDictKeys fun es => es.push ⟨k.hash w, key, v⟩)) :
    DOk w h' d (es.push ⟨k.hash w, key, v⟩) (stoV xs k key v) := by
  have hnot : k ∉ xs.map (·.1) := not_mem_of hno
  refine ⟨_, ep + 1, by rw [Array.size_push, hep], hg, hc.mapDictKeys _, Obj.data_mapDictKeys hd _, ?_, ?_, ?_⟩
  · rw [stoV_new (at_none hno)]
    simp [he, entV]
  · rw [stoV_new (at_none hno)]
    intro x hx
    rcases List.mem_append.mp hx with hx | hx
    · exact (his x hx).keeps ho hd hs
    · simp only [List.mem_singleton] at hx
      subst hx
      exact hkey.keeps ho hd hs
  · rw [stoV_new (at_none hno)]
    rw [List.map_append, List.nodup_append]
    refine ⟨hn, by simp, ?_⟩
    intro x hx y hy
    simp only [List.map_cons, List.map_nil, List.mem_singleton] at hy
    subst hy
    exact fun e => hnot (e ▸ hx)
theorem dset {v : Value} {Q : Unit → Shared → Prop} (hu : A.units + 8 < cLine) (hkey : VIs s.heap k key) (hm : DOk w s.heap d es xs) (hsz : xs.length < sizeLine)
    (hQ : ∀ h' es', DOk w h' d es' (stoV xs k key v) → Heap.SameBut d s.heap h' → Q () { s with heap := h', toks := s.toks + k.draws }) : wpAny (model prog w) A (dictSet d key v) Q E s := by
  obtain ⟨o, ep, hep, ho, hc, hd, he, his, hn⟩ := hm
  unfold dictSet
  try with_reducible refine wpAny_holding ?_
  refine wpAny_bind (hsh hu hkey ?_)
  unfold dictSetHashed
  try with_reducible refine wpAny_holding ?_
  refine wpAny_bind (find (s := { s with toks := s.toks + k.draws }) hu hkey ho hd he his hn ?_ ?_)
  · intro hno
    refine wpAny_bind (wpAny_rule (wpAny_updateDictKeys (hz := by have e := size_of he; omega) (s := { s with toks := s.toks + k.draws }) ho hd (hQ _ _ (push_ok hep hkey ho hc hd he his hn hno _ (Heap.SameBut.update ..) (Heap.get?_update_self _ ho (Obj.isFreed_of_dict (Obj.data_mapDictKeys hd _)))) (Heap.SameBut.update ..))))
  · intro j p hj
    refine wpAny_bind (wpAny_rule (wpAny_bind (wpAny_updateDict (s := { s with toks := s.toks + k.draws }) ho hd (wpAny_point (hQ _ _ ⟨_, ep, by rw [Array.size_modify, hep], Heap.get?_update_self _ ho (Obj.isFreed_of_dict (Obj.data_mapDict hd _)),
      hc.mapDict _, Obj.data_mapDict hd _, ?_, ?_, ?_⟩ (Heap.SameBut.update ..))))))
    · rw [stoV_old (at_of_get hn hj)]
      have := modify_put (entV w) (fun e : DictEntry => { e with val := v }) k v (fun _ _ => rfl) hn hj
      rw [← he] at this
      obtain ⟨l⟩ := es
      simpa using this
    · rw [stoV_old (at_of_get hn hj)]
      intro x hx
      obtain ⟨y, hy, rfl⟩ := List.mem_map.mp hx
      unfold putV
      split <;> exact (his y hy).keeps ho hd (Heap.SameBut.update ..)
    · rw [stoV_old (at_of_get hn hj)]
      rw [keys_put]; exact hn
theorem dsetd {v : Value} {Q : Value → Shared → Prop} (hu : A.units + 8 < cLine) (hkey : VIs s.heap k key) (hm : DOk w s.heap d es xs) (hsz : xs.length < sizeLine)
    (h1 : ∀ p, atV xs k = some p → Q p { s with toks := s.toks + k.draws })
    (h2 : atV xs k = none → ∀ h' es', DOk w h' d es' (stoV xs k key v) → Heap.SameBut d s.heap h' → Q v { s with heap := h', toks := s.toks + k.draws }) : wpAny (model prog w) A (dictSetDefault d key v) Q E s := by
  obtain ⟨o, ep, hep, ho, hc, hd, he, his, hn⟩ := hm
  unfold dictSetDefault
  try with_reducible refine wpAny_holding ?_
  refine wpAny_bind (hsh hu hkey ?_)
  refine wpAny_bind (find (s := { s with toks := s.toks + k.draws }) hu hkey ho hd he his hn ?_ ?_)
  · intro hno
    refine wpAny_bind (wpAny_rule (wpAny_bind (wpAny_updateDictKeys (hz := by have e := size_of he; omega) (s := { s with toks := s.toks + k.draws }) ho hd (wpAny_pure (h2 (at_none hno) _ _ (push_ok hep hkey ho hc hd he his hn hno _ (Heap.SameBut.update ..) (Heap.get?_update_self _ ho (Obj.isFreed_of_dict (Obj.data_mapDictKeys hd _)))) (Heap.SameBut.update ..))))))
  · intro j p hj
    refine wpAny_bind (wpAny_dictEntries (s := { s with toks := s.toks + k.draws }) ho hd ?_)
    rw [entry_at he j, hj]
    exact wpAny_bind (wpAny_rule (wpAny_pure (h1 p.2 (at_of_get hn hj))))
theorem cont {Q : Bool → Shared → Prop} (hu : A.units + 9 < cLine) (hkey : VIs s.heap k key) (hd : (d == sysModules) = false) (hm : DOk w s.heap d es xs)
    (h : Q (atV xs k).isSome { s with toks := s.toks + k.draws }) : wpAny (model prog w) A (contains (.ref d) key) Q E s := by
  unfold contains
  try with_reducible refine wpAny_holding ?_
  refine wpAny_bind (wpAny_specialOf hm.typeIs slot_dict_contains.lookup ?_)
  show wpAny _ _ (if (some (Value.builtin "dict.__contains__") == some Value.none) = true then _ else _) _ E s
  rw [if_neg (by rw [beq_builtin_none]; exact Bool.false_ne_true)]
  refine wpAny_bind (wpAny_callSpecialUnlessNone?_slot (name := Str.ofString "__contains__") hm.typeIs slot_dict_contains
    (wpAny_call_entry slot_dict_contains hm.typeIs entry_dict_contains ?_ (args_dict_contains _ _)))
  show wpAny _ _ (dictGet d key >>= _) _ _ s
  refine wpAny_bind (dget (show A.in1.units + 8 < cLine from by simp; omega) hkey hm ?_)
  cases hf : atV xs k with
  | some p =>
    rw [hf] at h
    show wpAny _ _ (ret (.bool true)) _ _ _
    exact wpAny_pure ⟨_, rfl, wpAny_truthy_bool h⟩
  | none =>
    rw [hf] at h
    show wpAny _ _ (Builtin.Dict.pendingKey? d key >>= _) _ _ _
    exact wpAny_bind (wpAny_pendingKey_other hd (wpAny_pure ⟨_, rfl, wpAny_truthy_bool h⟩))
theorem dIn {Q : Value → Shared → Prop} (hu : A.units + 9 < cLine) (hkey : VIs s.heap k key) (hd : (d == sysModules) = false) (hm : DOk w s.heap d es xs)
    (h : Q (.bool (atV xs k).isSome) { s with toks := s.toks + k.draws }) : wpAny (model prog w) A (compareOp .In key (.ref d)) Q E s := by
  show wpAny _ _ (do return .bool (← contains (.ref d) key)) Q E s
  exact wpAny_bind (cont hu hkey hd hm (wpAny_pure h))
theorem dNotIn {Q : Value → Shared → Prop} (hu : A.units + 9 < cLine) (hkey : VIs s.heap k key) (hd : (d == sysModules) = false) (hm : DOk w s.heap d es xs)
    (h : Q (.bool (!(atV xs k).isSome)) { s with toks := s.toks + k.draws }) : wpAny (model prog w) A (compareOp .NotIn key (.ref d)) Q E s := by
  show wpAny _ _ (do return .bool (!(← contains (.ref d) key))) Q E s
  exact wpAny_bind (cont hu hkey hd hm (wpAny_pure h))
theorem dItem {p : Value} {Q : Value → Shared → Prop} (hu : A.units + 9 < cLine) (hkey : VIs s.heap k key) (hm : DOk w s.heap d es xs) (hp : atV xs k = some p)
    (h : Q p { s with toks := s.toks + k.draws }) : wpAny (model prog w) A (getItem (.ref d) key) Q E s := by
  unfold getItem
  try with_reducible refine wpAny_holding ?_
  refine wpAny_bind (wpAny_sequenceKey hm.typeIs (by decide) ?_)
  refine wpAny_bind (wpAny_callSpecial?_slot (name := Str.ofString "__getitem__") hm.typeIs slot_dict_getitem
    (wpAny_call_entry slot_dict_getitem hm.typeIs entry_dict_getitem ?_ (args_dict_getitem _ _)))
  show wpAny _ _ (dictGet d key >>= _) _ _ s
  refine wpAny_bind (dget (show A.in1.units + 8 < cLine from by simp; omega) hkey hm ?_)
  rw [hp]
  exact wpAny_pure ⟨p, rfl, wpAny_pure h⟩
theorem dPut {v : Value} {Q : Unit → Shared → Prop} (hu : A.units + 9 < cLine) (hkey : VIs s.heap k key) (hm : DOk w s.heap d es xs) (hsz : xs.length < sizeLine)
    (hQ : ∀ h' es', DOk w h' d es' (stoV xs k key v) → Heap.SameBut d s.heap h' → Q () { s with heap := h', toks := s.toks + k.draws }) : wpAny (model prog w) A (setItem (.ref d) key v) Q E s := by
  unfold setItem
  try with_reducible refine wpAny_holding ?_
  refine wpAny_bind (wpAny_sequenceKey hm.typeIs (by decide) ?_)
  refine wpAny_bind (wpAny_callSpecial?_slot (name := Str.ofString "__setitem__") hm.typeIs slot_dict_setitem
    (wpAny_call_entry slot_dict_setitem hm.typeIs entry_dict_setitem ?_ (args_dict_setitem _ _ _)))
  show wpAny _ _ (Builtin.Dict.notOrdered "__setitem__" ⟨[.ref d, key, v], []⟩ >>= _) _ _ s
  refine wpAny_bind (wpAny_notOrdered_dict hm.typeIs ?_)
  show wpAny _ _ (dictSet d key v >>= _) _ _ s
  exact wpAny_bind (dset (show A.in1.units + 8 < cLine from by simp; omega) hkey hm hsz fun h' es' hm' hs' => wpAny_pure ⟨.none, rfl, wpAny_pure (hQ h' es' hm' hs')⟩)
theorem meets_get1 (hd : (d == sysModules) = false) :
    MeetsIn prog w (Builtin.«dict.get» ⟨[.ref d, key], []⟩) (fun A R s => A.in1.units + 8 < cLine ∧ ∃ k es xs, VIs s.heap k key ∧ DOk w s.heap d es xs ∧ R (.ok (.ret ((atV xs k).getD .none))) { s with toks := s.toks + k.draws }) :=
  .of_wp fun A R s ⟨hu, k, es, xs, hkey, hm, h⟩ => by
    show wpAny _ _ (dictGet d key >>= _) _ _ s
    refine wpAny_bind (dget hu hkey hm ?_)
    cases hf : atV xs k with
    | some v =>
      rw [hf] at h
      exact wpAny_pure ⟨v, rfl, h⟩
    | none =>
      rw [hf] at h
      show wpAny _ _ (Builtin.Dict.missed d key >>= _) _ _ _
      exact wpAny_bind (wpAny_missed_other hd (wpAny_pure ⟨.none, rfl, h⟩))
theorem meets_get2 (hd : (d == sysModules) = false) (dflt : Value) :
    MeetsIn prog w (Builtin.«dict.get» ⟨[.ref d, key, dflt], []⟩) (fun A R s => A.in1.units + 8 < cLine ∧ ∃ k es xs, VIs s.heap k key ∧ DOk w s.heap d es xs ∧ R (.ok (.ret ((atV xs k).getD dflt))) { s with toks := s.toks + k.draws }) :=
  .of_wp fun A R s ⟨hu, k, es, xs, hkey, hm, h⟩ => by
    show wpAny _ _ (dictGet d key >>= _) _ _ s
    refine wpAny_bind (dget hu hkey hm ?_)
    cases hf : atV xs k with
    | some v =>
      rw [hf] at h
      exact wpAny_pure ⟨v, rfl, h⟩
    | none =>
      rw [hf] at h
      show wpAny _ _ (Builtin.Dict.missed d key >>= _) _ _ _
      exact wpAny_bind (wpAny_missed_other hd (wpAny_pure ⟨dflt, rfl, h⟩))
theorem meets_setd (hd : (d == sysModules) = false) (dflt : Value) :
    MeetsIn prog w (Builtin.«dict.setdefault» ⟨[.ref d, key, dflt], []⟩) (fun A R s => A.in1.units + 8 < cLine ∧ ∃ k es xs, VIs s.heap k key ∧ DOk w s.heap d es xs ∧ xs.length < sizeLine ∧
      (∀ p, atV xs k = some p → R (.ok (.ret p)) { s with toks := s.toks + k.draws }) ∧
      (atV xs k = none → ∀ h' es', DOk w h' d es' (stoV xs k key dflt) → Heap.SameBut d s.heap h' → R (.ok (.ret dflt)) { s with heap := h', toks := s.toks + k.draws })) :=
  .of_wp fun A R s ⟨hu, k, es, xs, hkey, hm, hz, h1, h2⟩ => by
    unfold Builtin.«dict.setdefault»
    refine wpAny_bind ?_
    unfold Builtin.Dict.keyAndDefault
    refine wpAny_bind (wpAny_notOrdered_dict hm.typeIs ?_)
    show wpAny _ _ (pure (d, key, some dflt)) _ _ s
    refine wpAny_pure ?_
    show wpAny _ _ (if (d == sysModules) = true then _ else (dictSetDefault d key dflt >>= _)) _ _ s
    rw [if_neg (by rw [hd]; exact Bool.false_ne_true)]
    exact wpAny_bind (dsetd hu hkey hm hz (fun p hp => wpAny_pure ⟨p, rfl, h1 p hp⟩) fun hn h' es' hm' hs' => wpAny_pure ⟨dflt, rfl, h2 hn h' es' hm' hs'⟩)
end
end DV
namespace Q
open PySem L2 DV
/-! ### dicts by their entries: the layer's rules -/
section
variable {X : Cx} {pins : List (Addr × Obj)} {σ : St} {H : Hp} {s : Shared}
mutual
theorem KN.is (I : Inv X pins σ H s) : ∀ {k : NestedKey} {v : V} {u : Value}, KN X.K H k v → RelV v u → NestedIs s.heap k u
  | _, _, _, .non, r => by cases r; exact .none
  | _, _, _, .num i, r => by obtain ⟨t, rfl⟩ := r; exact .int i t
  | _, _, _, .tup h q, r => by
    cases r
    obtain ⟨its, rv, ⟨o, ho, hc, n, hd⟩, _⟩ := I.tuple h.sq
    exact .tup ho hc hd (by simpa using KNs.is I q rv)
theorem KNs.is (I : Inv X pins σ H s) : ∀ {k : List NestedKey} {v : List V} {u : List Value}, KNs X.K H k v → Vals v u → NestedAll s.heap k u
  | _, _, _, .nil, .nil => .nil
  | _, _, _, .cons h q, .cons r t => .cons (KN.is I h r) (KNs.is I q t)
end
mutual
theorem KN.hsh {K : PySem.W.Frag} (w w' : World) : ∀ {k : NestedKey} {v : V}, KN K H k v → k.hash w = k.hash w'
  | _, _, .non => by simp [NestedKey.hash]
  | _, _, .num i => by simp [NestedKey.hash]
  | _, _, .tup h q => by simp [NestedKey.hash, KNs.hsh w w' q]
theorem KNs.hsh {K : PySem.W.Frag} (w w' : World) : ∀ {k : List NestedKey} {v : List V}, KNs K H k v → NestedKey.hashes w k = NestedKey.hashes w' k
  | _, _, .nil => by simp [NestedKey.hashes]
  | _, _, .cons h q => by simp [NestedKey.hashes, KN.hsh w w' h, KNs.hsh w w' q]
end
def look {β : Type} (ks : List (NestedKey × β)) (k : NestedKey) : Option β := (ks.find? fun x => decide (x.1 = k)).map (·.2)
def sto {β : Type} (ks : List (NestedKey × β)) (k : NestedKey) (v : β) : List (NestedKey × β) := if (look ks k).isSome then ks.map (fun x => if x.1 = k then (x.1, v) else x) else ks ++ [(k, v)]
/-- the machine's entries of an entry list -/
theorem ents_of (I : Inv X pins σ H s) {ks : List (NestedKey × V)} {el : List DictEntry} (h : Paired (EntV X.K H) ks el) :
    ∃ xs : List NE, el = xs.map (entV X.w) ∧ xs.map (·.1) = ks.map (·.1) ∧ (∀ x ∈ xs, VIs s.heap x.1 x.2.1) ∧ Paired (fun (p : NestedKey × V) (x : NE) => p.1 = x.1 ∧ (∃ kv, KN X.K H p.1 kv ∧ RelV kv x.2.1) ∧ RelV p.2 x.2.2 ∧ p.1.depth ≤ 8) ks xs := by
  induction h with
  | nil => exact ⟨[], rfl, rfl, by simp, .nil⟩
  | @cons p e ps es h _ ih =>
    obtain ⟨xs, e1, e2, e3, e4⟩ := ih
    obtain ⟨⟨kv, h1, h2⟩, h3, h4, h5⟩ := h
    refine ⟨(p.1, e.key, e.val) :: xs, ?_, by simp [e2], ?_, .cons ⟨rfl, ⟨kv, h1, h2⟩, h4, h5⟩ e4⟩
    · rw [List.map_cons, ← e1]
      congr 1
      cases e
      simp [entV, ← h3 X.w]
    · intro x hx
      rcases List.mem_cons.mp hx with rfl | hx
      · exact ⟨h1.is I h2, h5⟩
      · exact e3 x hx
theorem dok_of (I : Inv X pins σ H s) {a : Addr} {ks : List (NestedKey × V)} (h : RawD X.K H a ks) :
    ∃ es xs, H a = some (RawO a es) ∧ DOk X.w s.heap a es xs ∧ Paired (fun (p : NestedKey × V) (x : NE) => p.1 = x.1 ∧ (∃ kv, KN X.K H p.1 kv ∧ RelV kv x.2.1) ∧ RelV p.2 x.2.2 ∧ p.1.depth ≤ 8) ks xs := by
  obtain ⟨es, h1, h2, h3, h4, h5⟩ := h
  obtain ⟨xs, e1, e2, e3, e4⟩ := ents_of I h2
  obtain ⟨⟨o, ho, hc, hd⟩, _⟩ := (show ObjOk X.prog X.w H s.heap a (RawO a es) from I.hok a _ h1)
  exact ⟨es, xs, h1, ⟨o, es.size, rfl, ho, hc, hd, e1, e3, by rw [e2]; exact h3⟩, e4⟩
theorem look_at {K : PySem.W.Frag} {ks : List (NestedKey × V)} {xs : List NE} {k : NestedKey} (h : Paired (fun (p : NestedKey × V) (x : NE) => p.1 = x.1 ∧ (∃ kv, KN K H p.1 kv ∧ RelV kv x.2.1) ∧ RelV p.2 x.2.2 ∧ p.1.depth ≤ 8) ks xs) :
    (look ks k = none ∧ atV xs k = none) ∨ ∃ v u, look ks k = some v ∧ atV xs k = some u ∧ RelV v u := by
  induction h with
  | nil => exact .inl ⟨rfl, rfl⟩
  | @cons p x ps xs h _ ih =>
    by_cases hk : p.1 = k
    · have hk' : x.1 = k := h.1 ▸ hk
      exact .inr ⟨p.2, x.2.2, by simp [look, hk], by simp [atV, hk'], h.2.2.1⟩
    · have hk' : ¬ x.1 = k := h.1 ▸ hk
      have e1 : look (p :: ps) k = look ps k := by simp [look, hk]
      have e2 : atV (x :: xs) k = atV xs k := by simp [atV, hk']
      rw [e1, e2]
      exact ih
theorem rawO_new {P : Program} {w : World} {h : Heap} {a : Addr} {es : Array DictEntry} {H : Hp} (r : DT.Raw h a es es.size) : ObjOk P w H h a (RawO a es) := by
  obtain ⟨o, ho, q⟩ := r
  exact ⟨⟨o, ho, q⟩, ⟨o, ho⟩, fun h1 h2 p k => p.at' k⟩
/-- behind a store -/
theorem sto_ents {w : World} {K : PySem.W.Frag} {a : Addr} {ks : List (NestedKey × V)} {xs : List NE} {k : NestedKey} {kv v : V} {key u : Value} {h' : Heap} {es' : Array DictEntry}
    (hp : Paired (fun (p : NestedKey × V) (x : NE) => p.1 = x.1 ∧ (∃ kv, KN K H p.1 kv ∧ RelV kv x.2.1) ∧ RelV p.2 x.2.2 ∧ p.1.depth ≤ 8) ks xs) (hk : KN K H k kv) (hr : RelV kv key) (hd : k.depth ≤ 8) (hv : RelV v u) (hm : DOk w h' a es' (stoV xs k key u)) :
    Paired (EntV K H) (sto ks k v) es'.toList := by
  obtain ⟨o, ep, hep, ho, hc, hdd, he, g1, g2⟩ := hm
  rw [he]
  clear g1 g2
  have one : ∀ (p : NestedKey × V) (x : NE), (p.1 = x.1 ∧ (∃ kv, KN K H p.1 kv ∧ RelV kv x.2.1) ∧ RelV p.2 x.2.2 ∧ p.1.depth ≤ 8) → EntV K H p (entV w x) := fun p x ⟨h1, ⟨kv, h2, h3⟩, h4, h5⟩ => by
    refine ⟨⟨kv, h2, h3⟩, fun w' => ?_, h4, h5⟩
    show x.1.hash w = _
    rw [← h1]; exact h2.hsh w w'
  have hl := look_at (k := k) hp
  unfold sto stoV
  rcases hl with ⟨e1, e2⟩ | ⟨v0, u0, e1, e2, _⟩
  · rw [e1, e2]
    simp only [Option.isSome_none, Bool.false_eq_true, if_false, List.map_append, List.map_cons, List.map_nil]
    clear e1 e2 he
    induction hp with
    | nil => exact .cons (one (k, v) (k, key, u) ⟨rfl, ⟨kv, hk, hr⟩, hv, hd⟩) .nil
    | cons h _ ih => exact .cons (one _ _ h) ih
  · rw [e1, e2]
    simp only [Option.isSome_some, if_true]
    clear e1 e2 he
    induction hp with
    | nil => exact .nil
    | @cons p x ps xs h _ ih =>
      refine .cons ?_ ih
      show EntV K H (if p.1 = k then (p.1, v) else p) _
      by_cases hkk : p.1 = k
      · have hkk' : x.1 = k := h.1 ▸ hkk
        rw [if_pos hkk]
        unfold putV
        rw [if_pos hkk']
        exact one (p.1, v) (x.1, x.2.1, u) ⟨h.1, h.2.1, hv, h.2.2.2⟩
      · have hkk' : ¬ x.1 = k := h.1 ▸ hkk
        rw [if_neg hkk]
        unfold putV
        rw [if_neg hkk']
        exact one p x h
theorem sto_keys {β : Type} {ks : List (NestedKey × β)} {k : NestedKey} {v : β} (h : (ks.map (·.1)).Nodup) : ((sto ks k v).map (·.1)).Nodup := by
  unfold sto
  split
  · rw [List.map_map]
    have : ((fun x : NestedKey × β => x.1) ∘ fun x => if x.1 = k then (x.1, v) else x) = fun x => x.1 := by
      funext x
      simp only [Function.comp]
      split <;> rfl
    rw [this]; exact h
  · rename_i hn
    rw [List.map_append, List.nodup_append]
    refine ⟨h, by simp, ?_⟩
    intro x hx y hy
    simp only [List.map_cons, List.map_nil, List.mem_singleton] at hy
    subst hy
    rintro rfl
    obtain ⟨p, hp, rfl⟩ := List.mem_map.mp hx
    apply hn
    unfold look
    rw [Option.isSome_map, List.find?_isSome]
    exact ⟨p, hp, by simp⟩
theorem sto_len {β : Type} (ks : List (NestedKey × β)) (k : NestedKey) (v : β) : (sto ks k v).length ≤ ks.length + 1 := by
  unfold sto
  split <;> simp
/-! the rules -/
def rInR (K : PySem.W.Frag) (neg : Bool) : R2 := fun x y H Q => ∃ a ks k, y = .ref a ∧ RawD K H a ks ∧ KN K H k x ∧ k.depth ≤ 8 ∧ Q (.bl (if neg then !(look ks k).isSome else (look ks k).isSome)) H
theorem op_inR (hu : X.A.units + 65 < cLine) : OpR X (compareOp .In) (rInR X.K false) := by
  intro pins s σ H x y v u Q I rx ry h
  obtain ⟨a, ks, k, rfl, hr, hk, hd, q⟩ := h
  cases ry
  obtain ⟨es, xs, e1, hm, hp⟩ := dok_of I hr
  refine dIn (k := k) (by omega) ⟨hk.is I rx, hd⟩ hr.choose_spec.2.2.2.2 hm ⟨.bl (look ks k).isSome, H, I.tok _, ?_, q⟩
  rcases look_at (k := k) hp with ⟨l1, l2⟩ | ⟨v0, u0, l1, l2, _⟩ <;> (rw [l1, l2]; rfl)
theorem op_notInR (hu : X.A.units + 65 < cLine) : OpR X (compareOp .NotIn) (rInR X.K true) := by
  intro pins s σ H x y v u Q I rx ry h
  obtain ⟨a, ks, k, rfl, hr, hk, hd, q⟩ := h
  cases ry
  obtain ⟨es, xs, e1, hm, hp⟩ := dok_of I hr
  refine dNotIn (k := k) (by omega) ⟨hk.is I rx, hd⟩ hr.choose_spec.2.2.2.2 hm ⟨.bl (!(look ks k).isSome), H, I.tok _, ?_, q⟩
  rcases look_at (k := k) hp with ⟨l1, l2⟩ | ⟨v0, u0, l1, l2, _⟩ <;> (rw [l1, l2]; rfl)
def rIxR (K : PySem.W.Frag) : R2 := fun x y H Q => ∃ a ks k v, x = .ref a ∧ RawD K H a ks ∧ KN K H k y ∧ k.depth ≤ 8 ∧ look ks k = some v ∧ Q v H
theorem ix_raw (hu : X.A.units + 65 < cLine) : IxR X (rIxR X.K) := by
  intro value slice pins s σ H x y v u Q I rx ry h hs
  obtain ⟨a, ks, k, vv, rfl, hr, hk, hd, hl, q⟩ := h
  cases rx
  obtain ⟨es, xs, e1, hm, hp⟩ := dok_of I hr
  rcases look_at (k := k) hp with ⟨l1, l2⟩ | ⟨v0, u0, l1, l2, rr⟩
  · rw [l1] at hl; cases hl
  · rw [l1] at hl; cases hl
    exact PyProof.Rows.subscriptTail_builtinR (x := u0) hm.typeIs slot_dict_getitem.lookup (dItem (k := k) (Q := fun r s' => r = u0 ∧ EP X pins σ Q r s') (by omega) ⟨hk.is I ry, hd⟩ hm l2 ⟨rfl, vv, H, I.tok _, rr, q⟩) hs
def rSetR (K : PySem.W.Frag) : TSet := fun o i v H Q => ∃ a ks k, o = .ref a ∧ RawD K H a ks ∧ KN K H k i ∧ k.depth ≤ 8 ∧ ks.length < sizeLine ∧ ∀ es', Paired (EntV K H) (sto ks k v) es'.toList → Q (upd H a (RawO a es'))
theorem set_raw (hu : X.A.units + 65 < cLine) : PSet X (rSetR X.K) := by
  intro pins s σ H o i v ov iv u Q I ro ri rv h
  obtain ⟨a, ks, k, rfl, hr, hk, hd, hz, q⟩ := h
  cases ro
  obtain ⟨es, xs, e1, hm, hp⟩ := dok_of I hr
  refine dPut (k := k) (by omega) ⟨hk.is I ri, hd⟩ hm (by rw [← Paired.length hp]; exact hz) fun h' es' hm' hs => ?_
  have r' := hm'.raw
  have he : ∃ u, h'.get? a = some u := let ⟨o, ho, _⟩ := r'; ⟨o, ho⟩
  exact ⟨upd H a (RawO a es'), I.write (e := a) (t' := s.toks + k.draws) (by rw [e1]; trivial) (.inl rfl) (fun b u hb hu => (hs.2 b hb).trans hu) he (rawO_new r'), q es' (sto_ents hp hk ri hd rv hm')⟩
def rGet1R (K : PySem.W.Frag) : V → List V → Hp → VK → Prop := fun x xs H Q => ∃ a ks k y, x = .ref a ∧ xs = [y] ∧ RawD K H a ks ∧ KN K H k y ∧ k.depth ≤ 8 ∧ Q ((look ks k).getD .non) H
def rGet2R (K : PySem.W.Frag) : V → List V → Hp → VK → Prop := fun x xs H Q => ∃ a ks k y z, x = .ref a ∧ xs = [y, z] ∧ RawD K H a ks ∧ KN K H k y ∧ k.depth ≤ 8 ∧ Q ((look ks k).getD z) H
def rSetdR (K : PySem.W.Frag) : V → List V → Hp → VK → Prop := fun x xs H Q => ∃ a ks k y z, x = .ref a ∧ xs = [y, z] ∧ RawD K H a ks ∧ KN K H k y ∧ k.depth ≤ 8 ∧ ks.length < sizeLine ∧
  (∀ v, look ks k = some v → Q v H) ∧ (look ks k = none → ∀ es', Paired (EntV K H) (sto ks k z) es'.toList → Q z (upd H a (RawO a es')))
theorem mt_get1R (hu : X.A.units + 65 < cLine) : MtR X "dict.get" (rGet1R X.K) := by
  intro pins s σ H x xs v us Q I rx rxs h
  obtain ⟨a, ks, k, y, rfl, rfl, hr, hk, hd, q⟩ := h
  cases rx
  cases rxs with
  | cons ry rt =>
    cases rt
    obtain ⟨es, xs, e1, hm, hp⟩ := dok_of I hr
    refine call_meetsIn PySem.F.slot_dict_get hm.typeIs PySem.F.entry_dict_get (PySem.F.args_dict_get_2 _ _) (meets_get1 hr.choose_spec.2.2.2.2) ⟨by simp; omega, k, es, xs, ⟨hk.is I ry, hd⟩, hm, (look ks k).getD .non, H, I.tok _, ?_, q⟩
    rcases look_at (k := k) hp with ⟨l1, l2⟩ | ⟨v0, u0, l1, l2, rr⟩
    · rw [l1, l2]; rfl
    · rw [l1, l2]; exact rr
theorem mt_get2R (hu : X.A.units + 65 < cLine) : MtR X "dict.get" (rGet2R X.K) := by
  intro pins s σ H x xs v us Q I rx rxs h
  obtain ⟨a, ks, k, y, z, rfl, rfl, hr, hk, hd, q⟩ := h
  cases rx
  cases rxs with
  | cons ry rt =>
    cases rt with
    | cons rz rt =>
      cases rt
      obtain ⟨es, xs, e1, hm, hp⟩ := dok_of I hr
      refine call_meetsIn PySem.F.slot_dict_get hm.typeIs PySem.F.entry_dict_get (PySem.F.args_dict_get_3 _ _ _) (meets_get2 hr.choose_spec.2.2.2.2 _) ⟨by simp; omega, k, es, xs, ⟨hk.is I ry, hd⟩, hm, (look ks k).getD z, H, I.tok _, ?_, q⟩
      rcases look_at (k := k) hp with ⟨l1, l2⟩ | ⟨v0, u0, l1, l2, rr⟩
      · rw [l1, l2]; exact rz
      · rw [l1, l2]; exact rr
theorem mt_setdR (hu : X.A.units + 65 < cLine) : MtR X "dict.setdefault" (rSetdR X.K) := by
  intro pins s σ H x xs v us Q I rx rxs h
  obtain ⟨a, ks, k, y, z, rfl, rfl, hr, hk, hd, hz, q1, q2⟩ := h
  cases rx
  cases rxs with
  | cons ry rt =>
    cases rt with
    | cons rz rt =>
      cases rt
      obtain ⟨es, xs, e1, hm, hp⟩ := dok_of I hr
      refine call_meetsIn PySem.F.slot_dict_setdefault hm.typeIs PySem.F.entry_dict_setdefault (PySem.F.args_dict_setdefault_3 _ _ _) (meets_setd hr.choose_spec.2.2.2.2 _) ⟨by simp; omega, k, es, xs, ⟨hk.is I ry, hd⟩, hm, by rw [← Paired.length hp]; exact hz, fun p hpp => ?_, fun hn h' es' hm' hs => ?_⟩
      · rcases look_at (k := k) hp with ⟨l1, l2⟩ | ⟨v0, u0, l1, l2, rr⟩
        · rw [l2] at hpp; cases hpp
        · rw [l2] at hpp; cases hpp
          exact ⟨v0, H, I.tok _, rr, q1 v0 l1⟩
      · have r' := hm'.raw
        have he : ∃ u, h'.get? a = some u := let ⟨o, ho, _⟩ := r'; ⟨o, ho⟩
        have ln : look ks k = none := by
          rcases look_at (k := k) hp with ⟨l1, l2⟩ | ⟨v0, u0, l1, l2, rr⟩
          · exact l1
          · rw [l2] at hn; cases hn
        exact ⟨z, upd H a (RawO a es'), I.write (e := a) (t' := s.toks + k.draws) (by rw [e1]; trivial) (.inl rfl) (fun b u hb hu => (hs.2 b hb).trans hu) he (rawO_new r'), rz, q2 ln es' (sto_ents hp hk ry hd rz hm')⟩
/-- {} -/
def tDNewR : TE := fun _ H Q => ∀ p, H p = none → (p == sysModules) = false → Q (.ref p) (upd H p (RawO p #[]))
theorem pe_dnewR {pos : Pos} : PE X (.Dict [] [] pos) tDNewR := ⟨fun pins s σ H Q I h =>
  wpAny_Dict_empty ⟨.ref s.heap.objs.size, _, I.laid (a := s.heap.objs.size) (o := RawO s.heap.objs.size #[]) (t' := s.toks) (fun _ _ q => Heap.get?_push_of_some _ q) (Nat.le_refl _) (rawO_new ⟨_, Heap.get?_push_size _ rfl, ⟨rfl, rfl, rfl⟩, rfl⟩), rfl,
    h _ (I.hok.fresh (Nat.le_refl _)) (beq_eq_false_iff_ne.mpr (Ne.symm (Nat.ne_of_lt I.big)))⟩⟩
/-! methods -/
def IsRaw (K : PySem.W.Frag) (H : Hp) (x : V) : Prop := ∃ a ks, x = .ref a ∧ RawD K H a ks
def tRM (K : PySem.W.Frag) (r : V → List V → Hp → VK → Prop) (to : TE) (t : TA) : TE := fun σ H Q => to σ H fun x H1 => IsRaw K H1 x ∧ t σ H1 fun xs H2 => r x xs H2 Q
theorem raw_ty (I : Inv X pins σ H s) {x : V} {v : Value} (r : RelV x v) (h : IsRaw X.K H x) : s.TypeIs v "dict" ∧ ∀ a, v = .ref a → ∃ ob, s.heap.get? a = some ob ∧ ob.dict = none := by
  obtain ⟨a, ks, rfl, hr⟩ := h
  cases r
  obtain ⟨es, xs, e1, hm, hp⟩ := dok_of I hr
  refine ⟨hm.typeIs, fun b e => ?_⟩
  cases e
  obtain ⟨o, ep, hep, ho, hc, _⟩ := hm
  exact ⟨o, ho, hc.2.1⟩
theorem pe_rm {o e : Expr} {es : List Expr} {to : TE} {t : TA} {apos cpos : Pos} {name : Str} {id : String} {r : V → List V → Hp → VK → Prop} (slot : Slot "dict" name id) (hty : typeOf (.builtin id) = pure (.type "method_descriptor")) (hm : MtR X id r) (ho : PE X o to) (ha : PA X (e :: es) t)
    (hbase : attributeBase o name X.env (eval o X.env) = eval o X.env := by rfl)
    (hfew : ((backTo cpos (starEach (e :: es) X.env)).all (fun x => !x.1) && (backToKw cpos (keywordEach [] X.env)).all (fun x => x.1.isSome)
      && decide ((e :: es).length + ([] : List Keyword).length + (if ([] : List Keyword).isEmpty then 0 else 1) < 30)) = true := by rfl)
    (hline : (apos.endLine == cpos.line) = true := by rfl) (hs : starEach (e :: es) X.env = (false, eval e X.env) :: starEach es X.env := by rfl) (hplain : (backTo cpos (starEach es X.env)).any (·.1) = false := by rfl) :
    PE X (.Call (.Attribute o name apos) (e :: es) [] cpos) (tRM X.K r to t) := by
  refine ⟨fun pins s σ H Q I h => ?_⟩
  refine wpAny_Call_method_late hbase hfew hline rfl (thn (ho.run pins s σ H _ I h) fun v s1 ⟨x, H1, I1, r1, ty, q1⟩ => ?_)
  obtain ⟨h1, h2⟩ := raw_ty I1 r1 ty
  refine ⟨"dict", id, PySem.F.plainAttrs_dict, slot, hty, h1, h2, ?_⟩
  have hA := ha.run cpos pins s1 σ H1 _ I1 q1
  rw [hs] at hA ⊢
  refine Calls.callWith_builtin (by show (false || (backTo cpos (starEach es X.env)).any (·.1)) = false; rw [hplain] <;> rfl) (Calls.evalArgs_plain ?_)
  exact thn hA fun us s2 ⟨vs, H2, I2, r2, q2⟩ => hm pins s2 σ H2 x vs v us Q I2 r1 r2 q2
end
end Q
namespace Q
open PySem L2 DV
/-! ### dicts as lists of pairs -/
mutual
def nk : D → Option NestedKey
  | .non => some .none
  | .int i => some (.num i)
  | .tup xs => (nks xs).map .tup
  | _ => none
def nks : List D → Option (List NestedKey)
  | [] => some []
  | d :: ds => (nk d).bind fun k => (nks ds).map (k :: ·)
end
mutual
theorem kN_nk : ∀ {d : D} {k : NestedKey}, nk d = some k → d = kN k
  | .non, k, h => by simp only [nk] at h; cases h; rw [kN]
  | .int i, k, h => by simp only [nk] at h; cases h; rw [kN]
  | .tup xs, k, h => by
    simp only [nk] at h
    obtain ⟨ks, h1, rfl⟩ := Option.map_eq_some_iff.mp h
    rw [kN, ← kN_nks h1]
  | .bl b, k, h => by simp [nk] at h
  | .str b, k, h => by simp [nk] at h
  | .fl b, k, h => by simp [nk] at h
  | .par b, k, h => by simp [nk] at h
  | .ref b, k, h => by simp [nk] at h
theorem kN_nks : ∀ {d : List D} {k : List NestedKey}, nks d = some k → d = kNs k
  | [], k, h => by simp only [nks] at h; cases h; rw [kNs]
  | d :: ds, k, h => by
    simp only [nks] at h
    obtain ⟨k1, h1, h⟩ := bind_some h
    obtain ⟨k2, h2, rfl⟩ := Option.map_eq_some_iff.mp h
    rw [kNs, ← kN_nk h1, ← kN_nks h2]
end
section
variable {K : PySem.W.Frag} {ι : List Addr} {H : Hp}
mutual
theorem RV.kn : ∀ {d : D} {v : V} {k : NestedKey}, RV K ι H d v → nk d = some k → KN K H k v
  | _, _, k, .non, h => by simp only [nk] at h; cases h; exact .non
  | _, _, k, .int i, h => by simp only [nk] at h; cases h; exact .num i
  | _, _, k, .tup hs r, h => by
    simp only [nk] at h
    obtain ⟨ks, h1, rfl⟩ := Option.map_eq_some_iff.mp h
    exact .tup hs (RVs.kn r h1)
  | _, _, k, .bl _, h => by simp [nk] at h
  | _, _, k, .str _, h => by simp [nk] at h
  | _, _, k, .fl _ _, h => by simp [nk] at h
  | _, _, k, .par _ _, h => by simp [nk] at h
  | _, _, k, .ref _, h => by simp [nk] at h
  | _, _, k, .lam _ _, h => by simp [nk] at h
theorem RVs.kn : ∀ {d : List D} {v : List V} {k : List NestedKey}, RVs K ι H d v → nks d = some k → KNs K H k v
  | _, _, k, .nil, h => by simp only [nks] at h; cases h; exact .nil
  | _, _, k, .cons r t, h => by
    simp only [nks] at h
    obtain ⟨k1, h1, h⟩ := bind_some h
    obtain ⟨k2, h2, rfl⟩ := Option.map_eq_some_iff.mp h
    exact .cons (RV.kn r h1) (RVs.kn t h2)
end
end
mutual
theorem kN_inj : ∀ {k j : NestedKey}, kN k = kN j → k = j
  | .none, j, h => by cases j <;> simp [kN] at h; rfl
  | .num i, j, h => by cases j <;> simp [kN] at h; rw [h]
  | .text i, j, h => by cases j <;> simp [kN] at h; rw [h]
  | .tup ks, j, h => by
    cases j with
    | tup js => simp only [kN, D.tup.injEq] at h; rw [kNs_inj h]
    | _ => simp [kN] at h
theorem kNs_inj : ∀ {k j : List NestedKey}, kNs k = kNs j → k = j
  | [], j, h => by cases j <;> simp [kNs] at h; rfl
  | k :: ks, j, h => by
    cases j with
    | nil => simp [kNs] at h
    | cons j js =>
      simp only [kNs, List.cons.injEq] at h
      rw [kN_inj h.1, kNs_inj h.2]
end
open Classical in
noncomputable def dlook (kvs : List (D × D)) (d : D) : Option D := (kvs.find? fun p => decide (p.1 = d)).map (·.2)
open Classical in
noncomputable def dsto (kvs : List (D × D)) (d v : D) : List (D × D) := if (dlook kvs d).isSome then kvs.map (fun p => if p.1 = d then (p.1, v) else p) else kvs ++ [(d, v)]
section
variable {K : PySem.W.Frag} {ι : List Addr} {H : Hp}
abbrev DR (K : PySem.W.Frag) (ι : List Addr) (H : Hp) : List (D × D) → List (NestedKey × V) → Prop := Paired (fun (p : D × D) (q : NestedKey × V) => p.1 = kN q.1 ∧ RV K ι H p.2 q.2)
theorem look_rel {kvs : List (D × D)} {ks : List (NestedKey × V)} {k : NestedKey} (h : DR K ι H kvs ks) : (dlook kvs (kN k) = none ∧ look ks k = none) ∨ ∃ v u, dlook kvs (kN k) = some v ∧ look ks k = some u ∧ RV K ι H v u := by
  induction h with
  | nil => exact .inl ⟨rfl, rfl⟩
  | @cons p q ps qs h _ ih =>
    by_cases hk : q.1 = k
    · have hk' : p.1 = kN k := by rw [h.1, hk]
      exact .inr ⟨p.2, q.2, by simp [dlook, hk'], by simp [look, hk], h.2⟩
    · have hk' : ¬ p.1 = kN k := fun e => hk (kN_inj (h.1.symm.trans e))
      have e1 : dlook (p :: ps) (kN k) = dlook ps (kN k) := by simp [dlook, hk']
      have e2 : look (q :: qs) k = look qs k := by simp [look, hk]
      rw [e1, e2]
      exact ih
theorem sto_rel {kvs : List (D × D)} {ks : List (NestedKey × V)} {k : NestedKey} {v : D} {u : V} (h : DR K ι H kvs ks) (hv : RV K ι H v u) : DR K ι H (dsto kvs (kN k) v) (sto ks k u) := by
  unfold dsto sto
  rcases look_rel (k := k) h with ⟨e1, e2⟩ | ⟨v0, u0, e1, e2, _⟩
  · rw [e1, e2]
    simp only [Option.isSome_none, Bool.false_eq_true, if_false]
    clear e1 e2
    induction h with
    | nil => exact .cons ⟨rfl, hv⟩ .nil
    | cons h _ ih => exact .cons h ih
  · rw [e1, e2]
    simp only [Option.isSome_some, if_true]
    clear e1 e2
    induction h with
    | nil => exact .nil
    | @cons p q ps qs h _ ih =>
      refine .cons ?_ ih
      by_cases hk : q.1 = k
      · have hk' : p.1 = kN k := by rw [h.1, hk]
        simp only [if_pos hk, if_pos hk']
        exact ⟨h.1, hv⟩
      · have hk' : ¬ p.1 = kN k := fun e => hk (kN_inj (h.1.symm.trans e))
        simp only [if_neg hk, if_neg hk']
        exact h
theorem DR.mono {ι' : List Addr} {H' : Hp} {kvs : List (D × D)} {ks : List (NestedKey × V)} (h : DR K ι H kvs ks) (p : Kp ι H ι' H') : DR K ι' H' kvs ks := Paired.mapP h fun _ _ z => ⟨z.1, z.2.kp p⟩
end
/-- a dict in the memory is written -/
theorem set_raw_at {K : PySem.W.Frag} {ι : List Addr} {H : Hp} {m : Mem} {n : Nat} {a : Addr} {ks ks' : List (NestedKey × V)} {kvs' : List (D × D)} {es' : Array DictEntry} (rm : RM K ι H m) (e : ι[n]? = some a) (h : RawD K H a ks) (hp : Paired (EntV K H) ks' es'.toList) (hn : (ks'.map (·.1)).Nodup) (hz : ks'.length ≤ sizeLine) (r : DR K ι H kvs' ks') :
    Le ι H ι (upd H a (RawO a es')) ∧ RM K ι (upd H a (RawO a es')) (m.set n (.dcr kvs')) := by
  obtain ⟨es, h1, _, _, _, h5⟩ := h
  have mu : Mut (H a) := by rw [h1]; trivial
  have ku : Kp ι H ι (upd H a (RawO a es')) := Kp.upd mu
  have ha : a ∈ ι := List.mem_of_getElem? e
  refine ⟨⟨⟨[], by simp, by simp⟩, fun b u hb c => ?_⟩, ⟨rm.nd, by simp [rm.len], fun k b hb => ?_⟩⟩
  · by_cases z : b = a
    · subst z
      rw [hb] at mu
      rcases c with c | c
      · exact (nofz mu c).elim
      · exact absurd ha c
    · rw [upd_ne z]; exact hb
  · by_cases z : n = k
    · subst z
      have hl : n < m.length := by rw [← rm.len]; exact (List.getElem?_eq_some_iff.mp e).1
      rw [List.getElem?_set_self hl] at hb
      cases hb
      exact ⟨a, e, ks', ⟨es', upd_same, Paired.mapP hp fun x e ⟨⟨kv, z1, z2⟩, z3⟩ => ⟨⟨kv, z1.kp ku, z2⟩, z3⟩, hn, hz, h5⟩, r.mono ku⟩
    · rw [List.getElem?_set_ne z] at hb
      obtain ⟨a', e1, rb⟩ := rm.ob k b hb
      refine ⟨a', e1, rb.kp ku (upd_ne fun q => z ?_)⟩
      subst q
      have h1 := (List.getElem?_eq_some_iff.mp e)
      have h2 := (List.getElem?_eq_some_iff.mp e1)
      exact nd_inj rm.nd h1.1 h2.1 (h1.2.trans h2.2.symm)
/-- a dict that is read -/
def dctOf (x : Out) (m : Mem) : Option (List (D × D)) := match x with
  | .v (.ref n) => (match m[n]? with | some (.dcr a) => some a | _ => none)
  | .o (.dcr a) => some a
  | _ => none
theorem dct_at {K : PySem.W.Frag} {ι : List Addr} {H H0 : Hp} {m : Mem} {x : Out} {v : V} {kvs : List (D × D)} (rm : RM K ι H m) (ro : RO K H0 ι H x v) (h : dctOf x m = some kvs) : ∃ a ks, v = .ref a ∧ RawD K H a ks ∧ DR K ι H kvs ks := by
  unfold dctOf at h
  split at h
  · split at h
    · rename_i n _ ys hm
      cases h
      cases ro with
      | ref e =>
        obtain ⟨a, e1, ks, e2, r⟩ := rm.ob _ _ hm
        rw [e] at e1; cases e1
        exact ⟨_, ks, rfl, e2, r⟩
    · cases h
  · cases h
    obtain ⟨p, e, _, _, ks, e2, r⟩ := ro
    exact ⟨p, ks, e, e2, r⟩
  · cases h
/-- a key: data without places, not deep -/
def keyOf (x : Out) : Option D := match x with
  | .v d => (match nk d with | some k => if k.depth ≤ 8 then some d else none | none => none)
  | _ => none
theorem key_at {K : PySem.W.Frag} {ι : List Addr} {H H0 : Hp} {x : Out} {v : V} {d : D} (ro : RO K H0 ι H x v) (h : keyOf x = some d) : ∃ k, d = kN k ∧ KN K H k v ∧ k.depth ≤ 8 := by
  unfold keyOf at h
  split at h
  · split at h
    · rename_i k hk
      split at h
      · rename_i hd
        cases h
        exact ⟨k, kN_nk hk, RV.kn ro hk, hd⟩
      · cases h
    · cases h
  · cases h
/-- d[k] -/
noncomputable def dixF (x : Out) (y : Out) (m : Mem) : Option (Out × Mem) := (dctOf x m).bind fun kvs => (keyOf y).bind fun d => (dlook kvs d).map fun v => (.v v, m)
theorem dixU {K : PySem.W.Frag} : R2S K (rIxR K) dixF := by
  intro ι H H0 m x y z vx vy m' Q rm bd rx ry hf k
  obtain ⟨kvs, h1, hf⟩ := bind_some hf
  obtain ⟨d, h2, hf⟩ := bind_some hf
  obtain ⟨v, h3, h4⟩ := Option.map_eq_some_iff.mp hf
  cases h4
  obtain ⟨a, ks, rfl, hr, dr⟩ := dct_at rm rx h1
  obtain ⟨kk, rfl, hk, hd⟩ := key_at ry h2
  rcases look_rel (k := kk) dr with ⟨e1, e2⟩ | ⟨v0, u0, e1, e2, rv⟩
  · rw [e1] at h3; cases h3
  · rw [e1] at h3; cases h3
    exact ⟨a, ks, kk, u0, rfl, hr, hk, hd, e2, k _ ι H (Le.refl _ _) rm rv⟩
/-- k in d, k not in d -/
noncomputable def dinF (neg : Bool) (x : Out) (y : Out) (m : Mem) : Option (Out × Mem) := (dctOf y m).bind fun kvs => (keyOf x).bind fun d => some (.v (.bl (if neg then !(dlook kvs d).isSome else (dlook kvs d).isSome)), m)
theorem dinU {K : PySem.W.Frag} {neg : Bool} : R2S K (rInR K neg) (dinF neg) := by
  intro ι H H0 m x y z vx vy m' Q rm bd rx ry hf k
  obtain ⟨kvs, h1, hf⟩ := bind_some hf
  obtain ⟨d, h2, hf⟩ := bind_some hf
  cases hf
  obtain ⟨a, ks, rfl, hr, dr⟩ := dct_at rm ry h1
  obtain ⟨kk, rfl, hk, hd⟩ := key_at rx h2
  refine ⟨a, ks, kk, rfl, hr, hk, hd, ?_⟩
  have e : (dlook kvs (kN kk)).isSome = (look ks kk).isSome := by
    rcases look_rel (k := kk) dr with ⟨e1, e2⟩ | ⟨v0, u0, e1, e2, rv⟩ <;> rw [e1, e2] <;> rfl
  rw [← e]
  exact k _ ι H (Le.refl _ _) rm (RV.bl _)
/-- d[k] = v -/
noncomputable def dstoF (o i : Out) (d : D) (m : Mem) : Option Mem := match o with
  | .v (.ref n) => (match m[n]? with
    | some (.dcr kvs) => (keyOf i).bind fun k => if fits (kvs.length + 1) then some (m.set n (.dcr (dsto kvs k d))) else none
    | _ => none)
  | _ => none
@[simp] noncomputable def gDx (o i : E) (d : D) (ρ : Env) (m : Mem) : Option (Env × Mem) := (o ρ m).bind fun x => (i ρ x.2).bind fun y => (dstoF x.1 y.1 d y.2).bind fun m' => some (ρ, m')
theorem sg_dx {X : Cx} {e : Expr} {fo fi : E} (h0 : PG X e (gSub (tE X.K fo) (tE X.K fi) (rSetR X.K))) : SG X e (gDx fo fi) := pg_imp h0 fun v σ H Q ⟨ι, ρ, m, d, ρ', m', rs, rm, rv, hg, k⟩ => by
  obtain ⟨x, h1, hg⟩ := bind_some hg
  obtain ⟨y, h2, hg⟩ := bind_some hg
  obtain ⟨m2, h3, hg⟩ := bind_some hg
  cases hg
  refine ⟨ι, ρ, m, x.1, x.2, rs, rm, h1, fun ov ι1 H1 l1 rm1 ro1 bd1 => ?_⟩
  refine ⟨ι1, ρ, x.2, y.1, y.2, rs.mono l1, rm1, h2, fun iv ι2 H2 l2 rm2 ro2 bd2 => ?_⟩
  unfold dstoF at h3
  split at h3
  · rename_i n e1
    rw [e1] at ro1
    split at h3
    · rename_i kvs hm
      obtain ⟨dk, h4, h3⟩ := bind_some h3
      split at h3
      · rename_i hz; cases h3
        obtain ⟨kk, rfl, hk, hd⟩ := key_at ro2 h4
        have ro3 := ro1.mono l2
        cases ro3 with
        | ref e =>
          obtain ⟨a, e3, ks, e4, r⟩ := rm2.ob _ _ hm
          rw [e] at e3; cases e3
          have hl : ks.length + 1 ≤ sizeLine := by rw [← Paired.length r]; exact hz
          refine ⟨_, ks, kk, rfl, e4, hk, hd, by omega, fun es' hp => ?_⟩
          obtain ⟨l3, rm3⟩ := set_raw_at rm2 e e4 hp (sto_keys e4.choose_spec.2.2.1) (Nat.le_trans (sto_len _ _ _) hl) (sto_rel r ((rv.mono l1).mono l2))
          exact k _ ι2 _ (l1.tr rm1 (l2.tr rm2 l3)) (((rs.mono l1).mono l2).mono l3) rm3
      · cases h3
    · cases h3
  · cases h3
/-- {} -/
@[simp] def eDnew (_ : Env) (m : Mem) : Option (Out × Mem) := some (.o (.dcr []), m)
theorem se_dnew {X : Cx} {pos : Pos} : SE X (.Dict [] [] pos) eDnew := pe_imp pe_dnewR fun σ H Q ⟨ι, ρ, m, z, m', rs, rm, hf, k⟩ => by
  cases hf
  intro p hp hs bd
  exact k _ ι _ (Le.newAt hp) (rm.newAt hp) ⟨p, rfl, hp, fun z => rm.there p z hp, [], ⟨#[], upd_same, .nil, by simp, by simp, hs⟩, .nil⟩ bd
/-! methods -/
def isDct (x : Out) (m : Mem) : Bool := (dctOf x m).isSome
@[simp] def eDm1 (f : F2) (a b : E) (ρ : Env) (m : Mem) : Option (Out × Mem) := (a ρ m).bind fun x => if isDct x.1 x.2 = true then (b ρ x.2).bind fun y => f x.1 y.1 y.2 else none
abbrev F3 := Out → Out → Out → Mem → Option (Out × Mem)
@[simp] def eDm2 (f : F3) (a b c : E) (ρ : Env) (m : Mem) : Option (Out × Mem) := (a ρ m).bind fun x => if isDct x.1 x.2 = true then (b ρ x.2).bind fun y => (c ρ y.2).bind fun z => f x.1 y.1 z.1 z.2 else none
def R3N (K : PySem.W.Frag) (r : V → V → V → Hp → VK → Prop) (f : F3) : Prop := ∀ (ι0 : List Addr) (H0 : Hp) (ι : List Addr) (H : Hp) (m : Mem) (x y t z : Out) (vx vy vt : V) (m' : Mem) (Q : VK), Le ι0 H0 ι H → RM K ι H m → Bnd K H → RO K H0 ι H x vx → RO K H0 ι H y vy → RO K H0 ι H t vt → f x y t m = some (z, m') →
  (∀ v ι' H', Le ι0 H0 ι' H' → RM K ι' H' m' → RO K H0 ι' H' z v → Q v H') → r vx vy vt H Q
section
variable {X : Cx} {e : Expr} {fa fb fc : E} {f2 : F2} {f3 : F3} {r : V → List V → Hp → VK → Prop}
theorem isDct_raw {K : PySem.W.Frag} {ι : List Addr} {H H0 : Hp} {m : Mem} {x : Out} {v : V} (rm : RM K ι H m) (ro : RO K H0 ι H x v) (h : isDct x m = true) : IsRaw K H v := by
  obtain ⟨kvs, h1⟩ := Option.isSome_iff_exists.mp h
  obtain ⟨a, ks, e, hr, _⟩ := dct_at rm ro h1
  exact ⟨a, ks, e, hr⟩
theorem se_dm1 (h0 : PE X e (tRM X.K r (tE X.K fa) (tCons (tE X.K fb) tNil))) (hr : R2N X.K (fun v u H Q => r v [u] H Q) f2) : SE X e (eDm1 f2 fa fb) := pe_imp h0 fun σ H Q ⟨ι, ρ, m, z, m', rs, rm, hf, k⟩ => by
  obtain ⟨x, h1, hf⟩ := bind_some hf
  split at hf
  · rename_i ht
    obtain ⟨y, h2, hf⟩ := bind_some hf
    refine ⟨ι, ρ, m, x.1, x.2, rs, rm, h1, fun v ι1 H1 l1 rm1 ro1 bd1 => ⟨isDct_raw rm1 ro1 ht, ?_⟩⟩
    refine ⟨ι1, ρ, x.2, y.1, y.2, rs.mono l1, rm1, h2, fun u ι2 H2 l2 rm2 ro2 bd2 => ?_⟩
    exact hr ι H ι2 H2 y.2 x.1 y.1 z v u m' _ (l1.tr rm1 l2) rm2 bd2 (ro1.mono l2) (ro2.from l1 rm1) hf fun w ι3 H3 l3 rm3 ro3 bd3 => k w ι3 H3 l3 rm3 ro3 bd3
  · cases hf
theorem se_dm2 (h0 : PE X e (tRM X.K r (tE X.K fa) (tCons (tE X.K fb) (tCons (tE X.K fc) tNil)))) (hr : R3N X.K (fun v u t H Q => r v [u, t] H Q) f3) : SE X e (eDm2 f3 fa fb fc) := pe_imp h0 fun σ H Q ⟨ι, ρ, m, z, m', rs, rm, hf, k⟩ => by
  obtain ⟨x, h1, hf⟩ := bind_some hf
  split at hf
  · rename_i ht
    obtain ⟨y, h2, hf⟩ := bind_some hf
    obtain ⟨t, h3, hf⟩ := bind_some hf
    refine ⟨ι, ρ, m, x.1, x.2, rs, rm, h1, fun v ι1 H1 l1 rm1 ro1 bd1 => ⟨isDct_raw rm1 ro1 ht, ?_⟩⟩
    refine ⟨ι1, ρ, x.2, y.1, y.2, rs.mono l1, rm1, h2, fun u ι2 H2 l2 rm2 ro2 bd2 => ?_⟩
    refine ⟨ι2, ρ, y.2, t.1, t.2, (rs.mono l1).mono l2, rm2, h3, fun tv ι3 H3 l3 rm3 ro3 bd3 => ?_⟩
    exact hr ι H ι3 H3 t.2 x.1 y.1 t.1 z v u tv m' _ (l1.tr rm1 (l2.tr rm2 l3)) rm3 bd3 ((ro1.mono l2).mono l3) ((ro2.mono l3).from l1 rm1) (ro3.from (l1.tr rm1 l2) rm2) hf fun w ι4 H4 l4 rm4 ro4 bd4 => k w ι4 H4 l4 rm4 ro4 bd4
  · cases hf
end
/-- d.get(k), d.get(k, z) -/
noncomputable def get1F (x : Out) (y : Out) (m : Mem) : Option (Out × Mem) := (dctOf x m).bind fun kvs => (keyOf y).bind fun d => some (.v ((dlook kvs d).getD .non), m)
theorem get1U {K : PySem.W.Frag} : R2S K (fun v u H Q => rGet1R K v [u] H Q) get1F := by
  intro ι H H0 m x y z vx vy m' Q rm bd rx ry hf k
  obtain ⟨kvs, h1, hf⟩ := bind_some hf
  obtain ⟨d, h2, hf⟩ := bind_some hf
  cases hf
  obtain ⟨a, ks, rfl, hr, dr⟩ := dct_at rm rx h1
  obtain ⟨kk, rfl, hk, hd⟩ := key_at ry h2
  refine ⟨a, ks, kk, _, rfl, rfl, hr, hk, hd, ?_⟩
  rcases look_rel (k := kk) dr with ⟨e1, e2⟩ | ⟨v0, u0, e1, e2, rv⟩
  · rw [e1] at k; rw [e2]; exact k _ ι H (Le.refl _ _) rm RV.non
  · rw [e1] at k; rw [e2]; exact k _ ι H (Le.refl _ _) rm rv
noncomputable def get2F (x : Out) (y : Out) (t : Out) (m : Mem) : Option (Out × Mem) := (dctOf x m).bind fun kvs => (keyOf y).bind fun d => match dlook kvs d with
  | some v => some (.v v, m)
  | none => some (t, m)
theorem get2U {K : PySem.W.Frag} : R3N K (fun v u t H Q => rGet2R K v [u, t] H Q) get2F := by
  intro ι0 H0 ι H m x y t z vx vy vt m' Q l rm bd rx ry rt hf k
  obtain ⟨kvs, h1, hf⟩ := bind_some hf
  obtain ⟨d, h2, hf⟩ := bind_some hf
  obtain ⟨a, ks, rfl, hr, dr⟩ := dct_at rm rx h1
  obtain ⟨kk, rfl, hk, hd⟩ := key_at ry h2
  refine ⟨a, ks, kk, _, _, rfl, rfl, hr, hk, hd, ?_⟩
  rcases look_rel (k := kk) dr with ⟨e1, e2⟩ | ⟨v0, u0, e1, e2, rv⟩
  · rw [e1] at hf; cases hf; rw [e2]; exact k _ ι H l rm rt
  · rw [e1] at hf; cases hf; rw [e2]; exact k _ ι H l rm rv
/-- d.setdefault(k, z) -/
noncomputable def setdF (x : Out) (y : Out) (t : Out) (m : Mem) : Option (Out × Mem) := match x with
  | .v (.ref n) => (match m[n]? with
    | some (.dcr kvs) => (keyOf y).bind fun d => if fits (kvs.length + 1) then (match dlook kvs d with
      | some v => some (.v v, m)
      | none => some (.v (val t m).1, (val t m).2.set n (.dcr (dsto kvs d (val t m).1)))) else none
    | _ => none)
  | _ => none
theorem setdU {K : PySem.W.Frag} : R3N K (fun v u t H Q => rSetdR K v [u, t] H Q) setdF := by
  intro ι0 H0 ι H m x y t z vx vy vt m' Q l rm bd rx ry rt hf k
  unfold setdF at hf
  split at hf
  · split at hf
    · rename_i n kvs hm
      obtain ⟨d, h2, hf⟩ := bind_some hf
      split at hf
      · rename_i hz
        obtain ⟨kk, rfl, hk, hd⟩ := key_at ry h2
        cases rx with
        | ref e =>
          obtain ⟨a, e1, ks, hr, dr⟩ := rm.ob _ _ hm
          rw [e] at e1; cases e1
          have hl : ks.length + 1 ≤ sizeLine := by rw [← Paired.length dr]; exact hz
          refine ⟨_, ks, kk, _, _, rfl, rfl, hr, hk, hd, by omega, fun v hv => ?_, fun hv es' hp => ?_⟩
          · rcases look_rel (k := kk) dr with ⟨e1, e2⟩ | ⟨v0, u0, e1, e2, rv⟩
            · rw [e2] at hv; cases hv
            · rw [e2] at hv; cases hv
              rw [e1] at hf; cases hf
              exact k _ ι H l rm rv
          · rcases look_rel (k := kk) dr with ⟨e1, e2⟩ | ⟨v0, u0, e1, e2, rv⟩
            · rw [e1] at hf; cases hf
              obtain ⟨ι2, l2, rm2, rv2, _, up, ups⟩ := rt.val l rm (RS.nil K ι H)
              cases up _ _ (RV.ref e) with
              | ref e' =>
                obtain ⟨l3, rm3⟩ := set_raw_at rm2 e' hr hp (sto_keys hr.choose_spec.2.2.1) (Nat.le_trans (sto_len _ _ _) hl) (sto_rel (Paired.mapP dr fun _ _ z => ⟨z.1, up _ _ z.2⟩) rv2)
                exact k _ ι2 _ (l2.tr rm2 l3) rm3 (RV.mono l3 rv2)
            · rw [e2] at hv; cases hv
      · cases hf
    · cases hf
  · cases hf
/-! short words -/
section
variable {X : Cx} {e a b c : Expr} {pos p p2 apos : Pos} {fa fb fc : E} {k : Nat}
theorem dix_ (hr : Room k X.A) (ha : SE X a fa) (hb : SE X b fb) (hs : PlainIx b := by exact fun _ _ => rfl) : SE X (.Subscript a b pos) (eBin dixF fa fb) := se_ix (ix_raw (u65 hr)) dixU ha hb hs
theorem din_ (hr : Room k X.A) (ha : SE X a fa) (hb : SE X b fb) (hm : behindInMarks .In b = false := by with_unfolding_all rfl) : SE X (.Compare a [.In] [b] pos) (eBin (dinF false) fa fb) := se_cmp (op_inR (u65 hr)) dinU ha hb hm
theorem dnin_ (hr : Room k X.A) (ha : SE X a fa) (hb : SE X b fb) (hm : behindInMarks .NotIn b = false := by with_unfolding_all rfl) : SE X (.Compare a [.NotIn] [b] pos) (eBin (dinF true) fa fb) := se_cmp (op_notInR (u65 hr)) dinU ha hb hm
theorem t_din (hr : Room k X.A) (ha : SE X a fa) (hb : SE X b fb) (hm : behindInMarks .In b = false := by with_unfolding_all rfl) : ST X (.Compare a [.In] [b] pos) (bOf (eBin (dinF false) fa fb)) := st_cmp (op_inR (u65 hr)) dinU ha hb hm
theorem t_dnin (hr : Room k X.A) (ha : SE X a fa) (hb : SE X b fb) (hm : behindInMarks .NotIn b = false := by with_unfolding_all rfl) : ST X (.Compare a [.NotIn] [b] pos) (bOf (eBin (dinF true) fa fb)) := st_cmp (op_notInR (u65 hr)) dinU ha hb hm
theorem dget1_ (h0 : PE X e (tRM X.K (rGet1R X.K) (tE X.K fa) (tCons (tE X.K fb) tNil))) : SE X e (eDm1 get1F fa fb) := se_dm1 h0 get1U.n
theorem dget2_ (h0 : PE X e (tRM X.K (rGet2R X.K) (tE X.K fa) (tCons (tE X.K fb) (tCons (tE X.K fc) tNil)))) : SE X e (eDm2 get2F fa fb fc) := se_dm2 h0 get2U
theorem dsetd_ (h0 : PE X e (tRM X.K (rSetdR X.K) (tE X.K fa) (tCons (tE X.K fb) (tCons (tE X.K fc) tNil)))) : SE X e (eDm2 setdF fa fb fc) := se_dm2 h0 setdU
end
end Q
namespace Q
open PySem L2
/-! ### xs.index(y) -/
theorem findIdx_spec {α : Type} {p : α → Bool} : ∀ {xs : List α} {j : Nat}, xs.findIdx? p = some j → ∃ y, xs[j]? = some y ∧ p y = true ∧ ∀ (m : Nat) (z : α), m < j → xs[m]? = some z → p z = false := by
  intro xs j h
  obtain ⟨hj, h1, h2⟩ := List.findIdx?_eq_some_iff_getElem.mp h
  refine ⟨xs[j], List.getElem?_eq_getElem hj, h1, fun m z hm hz => ?_⟩
  have := h2 m hm
  obtain ⟨_, rfl⟩ := List.getElem?_eq_some_iff.mp hz
  simpa using this
section
variable {X : Cx}
def rIdxT (K : PySem.W.Frag) : V → List V → Hp → VK → Prop := fun x xs H Q => ∃ p ys z j y, x = .ref p ∧ xs = [z] ∧ SqT K H p ys ∧ flatV z = true ∧ ys.all flatV = true ∧ ys[j]? = some y ∧ eqV y z = true ∧ (∀ m y', m < j → ys[m]? = some y' → eqV y' z = false) ∧ Q (.int (j : Nat)) H
theorem mt_idxT : MtR X "tuple.index" (rIdxT X.K) := by
  intro pins s σ H x xs v us Q I rx rs h
  obtain ⟨p, ys, z, j, y, rfl, rfl, hq, fz, fys, hy, hyz, hno, q⟩ := h
  cases rx
  cases rs with
  | cons rz rt =>
    cases rt
    obtain ⟨its, r, pl, hz⟩ := I.tuple hq
    obtain ⟨⟨cls, dd, dt, sl⟩, ho, hc, n, hd⟩ := pl
    simp only at hc hd
    subst hc
    subst hd
    have hl : its.toArray.size = ys.length := by rw [List.size_toArray, ← r.length]
    have hj : j < its.toArray.size := by rw [hl]; exact (List.getElem?_eq_some_iff.mp hy).1
    have at' : ∀ (m : Nat) (hm : m < its.toArray.size), ∃ y, ys[m]? = some y ∧ L2.eqU z its.toArray[m] = eqV y z := fun m hm => by
      have hm' : m < ys.length := by rw [← hl]; exact hm
      obtain ⟨w, hw, hw'⟩ := r.get (i := m) (x := ys[m]) (List.getElem?_eq_getElem hm')
      refine ⟨ys[m], List.getElem?_eq_getElem hm', ?_⟩
      have e := (List.getElem?_eq_some_iff.mp hw).2
      have e2 : its.toArray[m] = w := by rw [← e]; simp
      rw [e2]
      exact L2.eqU_of hw' ((List.all_eq_true.mp fys) _ (List.getElem_mem hm'))
    refine call_meets PySem.F.slot_tuple_index ⟨_, ho, rfl⟩ PySem.F.entry_tuple_index (PySem.F.args_tuple_index_2 _ _) (_root_.TI.tuple_indexAt p its.toArray n dd sl _ (L2.eqU z) j hj ?_ ?_)
      ⟨ho, fun w hw => mem_eqAt (x := z) rz fz r fys w (by simpa using hw), ⟨.int (j : Nat), H, I.tok _, ⟨_, rfl⟩, q⟩⟩
    · obtain ⟨y', h1, h2⟩ := at' j hj
      rw [hy] at h1
      cases h1
      rw [h2]
      exact hyz
    · intro m hm hmj
      obtain ⟨y', h1, h2⟩ := at' m hm
      rw [h2]
      exact hno m y' hmj h1
def IsTp (K : PySem.W.Frag) (H : Hp) (x : V) : Prop := ∃ a vs, x = .ref a ∧ TpAt K H a vs
theorem tp_ty {pins : List (Addr × Obj)} {σ : St} {H : Hp} {s : Shared} (I : Inv X pins σ H s) {x : V} {v : Value} (r : RelV x v) (h : IsTp X.K H x) : s.TypeIs v "tuple" ∧ ∀ a, v = .ref a → ∃ ob, s.heap.get? a = some ob ∧ ob.dict = none := by
  obtain ⟨a, vs, rfl, hr⟩ := h
  cases r
  obtain ⟨its, _, p, _⟩ := I.tuple hr.sq
  refine ⟨p.typeIs, fun b e => ?_⟩
  cases e
  rcases hr with ⟨o, h1, h2⟩ | ⟨o, _, _, h1, _, h2, _⟩
  · exact ⟨o, (I.hok a _ h1).1, h2⟩
  · exact ⟨o, I.kIn _ _ h1, h2⟩
def tTM (K : PySem.W.Frag) (r : V → List V → Hp → VK → Prop) (to : TE) (t : TA) : TE := fun σ H Q => to σ H fun x H1 => IsTp K H1 x ∧ t σ H1 fun xs H2 => r x xs H2 Q
theorem pe_tm {o e : Expr} {es : List Expr} {to : TE} {t : TA} {apos cpos : Pos} {name : Str} {id : String} {r : V → List V → Hp → VK → Prop} (slot : Slot "tuple" name id) (hty : typeOf (.builtin id) = pure (.type "method_descriptor")) (hm : MtR X id r) (ho : PE X o to) (ha : PA X (e :: es) t)
    (hbase : attributeBase o name X.env (eval o X.env) = eval o X.env := by rfl)
    (hfew : ((backTo cpos (starEach (e :: es) X.env)).all (fun x => !x.1) && (backToKw cpos (keywordEach [] X.env)).all (fun x => x.1.isSome)
      && decide ((e :: es).length + ([] : List Keyword).length + (if ([] : List Keyword).isEmpty then 0 else 1) < 30)) = true := by rfl)
    (hline : (apos.endLine == cpos.line) = true := by rfl) (hs : starEach (e :: es) X.env = (false, eval e X.env) :: starEach es X.env := by rfl) (hplain : (backTo cpos (starEach es X.env)).any (·.1) = false := by rfl) :
    PE X (.Call (.Attribute o name apos) (e :: es) [] cpos) (tTM X.K r to t) := by
  refine ⟨fun pins s σ H Q I h => ?_⟩
  refine wpAny_Call_method_late hbase hfew hline rfl (thn (ho.run pins s σ H _ I h) fun v s1 ⟨x, H1, I1, r1, ty, q1⟩ => ?_)
  obtain ⟨h1, h2⟩ := tp_ty I1 r1 ty
  refine ⟨"tuple", id, PySem.F.plainAttrs_tuple, slot, hty, h1, h2, ?_⟩
  have hA := ha.run cpos pins s1 σ H1 _ I1 q1
  rw [hs] at hA ⊢
  refine Calls.callWith_builtin (by show (false || (backTo cpos (starEach es X.env)).any (·.1)) = false; rw [hplain] <;> rfl) (Calls.evalArgs_plain ?_)
  exact thn hA fun us s2 ⟨vs, H2, I2, r2, q2⟩ => hm pins s2 σ H2 x vs v us Q I2 r1 r2 q2
/-- t.index(y): flat things -/
def idxTF (x : Out) (y : Out) (m : Mem) : Option (Out × Mem) := match x with
  | .v (.tup xs) => (form y m).bind fun a => if flatD a = true ∧ xs.all flatD = true then (xs.findIdx? fun d => d.eqb a).map fun j => (.v (.int (j : Nat)), m) else none
  | _ => none
@[simp] def eTm1 (f : F2) (a b : E) (ρ : Env) (m : Mem) : Option (Out × Mem) := (a ρ m).bind fun x => match x.1 with
  | .v (.tup xs) => (b ρ x.2).bind fun y => f (.v (.tup xs)) y.1 y.2
  | _ => none
theorem eqb_V {K : PySem.W.Frag} {ι : List Addr} {H : Hp} {a : D} {u : V} (q : RV K ι H a u) (h2 : flatD a = true) : ∀ {ds : List D} {vs : List V} {j : Nat} {v : V}, RVs K ι H ds vs → ds.all flatD = true → vs[j]? = some v → ∃ d, ds[j]? = some d ∧ eqV v u = d.eqb a
  | _, _, _, _, .nil, _, e => by simp at e
  | _, _, 0, _, .cons r t, h, e => by
    simp only [List.all_cons, Bool.and_eq_true] at h
    simp at e; subst e
    exact ⟨_, rfl, eqV_D r q h.1 h2⟩
  | _, _, j + 1, _, .cons r t, h, e => by
    simp only [List.all_cons, Bool.and_eq_true] at h
    obtain ⟨d, e1, e2⟩ := eqb_V q h2 (j := j) t h.2 (by simpa using e)
    exact ⟨d, by simpa using e1, e2⟩
theorem se_idxT {e : Expr} {fa fb : E} (h0 : PE X e (tTM X.K (rIdxT X.K) (tE X.K fa) (tCons (tE X.K fb) tNil))) : SE X e (eTm1 idxTF fa fb) := pe_imp h0 fun σ H Q ⟨ι, ρ, m, z, m', rs, rm, hf, k⟩ => by
  obtain ⟨x, h1, hf⟩ := bind_some hf
  split at hf
  · rename_i xs e1
    obtain ⟨y, h2, hf⟩ := bind_some hf
    obtain ⟨a, h3, hf⟩ := bind_some hf
    split at hf
    · rename_i hfl
      obtain ⟨j, h4, h5⟩ := Option.map_eq_some_iff.mp hf
      cases h5
      refine ⟨ι, ρ, m, x.1, x.2, rs, rm, h1, fun v ι1 H1 l1 rm1 ro1 bd1 => ?_⟩
      rw [e1] at ro1
      cases ro1 with
      | tup hs r =>
        refine ⟨⟨_, _, rfl, hs⟩, ι1, ρ, x.2, y.1, y.2, rs.mono l1, rm1, h2, fun u ι2 H2 l2 rm2 ro2 bd2 => ?_⟩
        have hs2 := l2.k.rdT hs
        have r2 := r.mono l2
        have ra := form_flat (m := y.2) ro2 h3 hfl.1
        obtain ⟨d, g1, g2, g3⟩ := findIdx_spec h4
        obtain ⟨v1, g4, g5⟩ := r2.get g1
        refine ⟨_, _, _, j, v1, rfl, rfl, hs2.sq, flatD_v ra hfl.1, flatD_all r2 hfl.2, g4, ?_, fun mm y' hmj hy' => ?_, fun bd => k _ ι2 H2 (l1.tr rm1 l2) rm2 (RV.int _) bd⟩
        · obtain ⟨d', q1, q2⟩ := eqb_V ra hfl.1 r2 hfl.2 g4
          rw [g1] at q1; cases q1
          rw [q2]; exact g2
        · obtain ⟨d', q1, q2⟩ := eqb_V ra hfl.1 r2 hfl.2 hy'
          rw [q2]
          exact g3 mm d' hmj q1
    · cases hf
  · cases hf
end
end Q
namespace Q
open PySem L2
/-! ### more built-in functions of ints -/
def intsOfX : List D → Option (List Int)
  | [] => some []
  | .int b :: r => (intsOfX r).map (b :: ·)
  | _ => none
theorem intsOfX_eq : ∀ {xs : List D} {bs : List Int}, intsOfX xs = some bs → xs = bs.map D.int
  | [], bs, h => by cases h; rfl
  | d :: r, bs, h => by
    cases d with
    | int b =>
      rw [intsOfX] at h
      obtain ⟨cs, h1, h2⟩ := Option.map_eq_some_iff.mp h
      rw [← h2, intsOfX_eq h1]; rfl
    | _ => simp [intsOfX] at h
theorem intsOfX_map (bs : List Int) : intsOfX (bs.map D.int) = some bs := by
  induction bs with
  | nil => rfl
  | cons b r ih => simp [intsOfX, ih]
def sortI (ns : List Int) : List Int := ns.mergeSort fun a b => decide (a ≤ b)
theorem sortI_perm (ns : List Int) : (sortI ns).Perm ns := List.mergeSort_perm _ _
theorem sortI_rise (ns : List Int) : (sortI ns).Pairwise (· ≤ ·) := by
  have := List.pairwise_mergeSort (le := fun a b : Int => decide (a ≤ b)) (by simp; omega) (by simp; omega) ns
  exact this.imp (fun h => by simpa using h)
theorem sortI_unique {a ns : List Int} (h1 : a.Perm ns) (h2 : a.Pairwise (· ≤ ·)) : a = sortI ns :=
  List.Perm.eq_of_pairwise (le := fun a b : Int => a ≤ b) (fun a b _ _ h1 h2 => by omega) h2 (sortI_rise ns) (h1.trans (sortI_perm ns).symm)
/-- sorted(xs), a list of ints -/
def sortF (x : Out) (m : Mem) : Option (Out × Mem) := (lstOf x m).bind fun xs => (intsOfX xs).bind fun ns => some (.o (.lst ((sortI ns).map .int)), m)
theorem sortU' {K : PySem.W.Frag} : R1S K (fun v H Q => rSortedI K [v] H Q) sortF := by
  intro ι H H0 m x z vx m' Q rm bd rx hf k
  obtain ⟨xs, h1, hf⟩ := bind_some hf
  obtain ⟨ns, h2, hf⟩ := bind_some hf
  cases hf
  obtain ⟨a, vs, rfl, hs, r⟩ := lst_at rm rx h1
  rw [intsOfX_eq h2] at r
  rw [r.of_ints] at hs
  refine ⟨_, ns, rfl, .inl (.inl hs), fun out p hp hr hn => ?_⟩
  have := sortI_unique hp hr
  subst this
  exact k _ ι _ (Le.newAt hn) (rm.newAt hn) (new_lst rm hn (RVs.ints _))
/-- sum, max, min of a list of ints -/
def sumF (x : Out) (m : Mem) : Option (Out × Mem) := (lstOf x m).bind fun xs => (intsOfX xs).bind fun ns => some (.v (.int ns.sum), m)
theorem sumU {K : PySem.W.Frag} : R1S K (fun v H Q => rSum K [v] H Q) sumF := by
  intro ι H H0 m x z vx m' Q rm bd rx hf k
  obtain ⟨xs, h1, hf⟩ := bind_some hf
  obtain ⟨ns, h2, hf⟩ := bind_some hf
  cases hf
  obtain ⟨a, vs, rfl, hs, r⟩ := lst_at rm rx h1
  rw [intsOfX_eq h2] at r
  rw [r.of_ints] at hs
  exact ⟨_, ns, rfl, .inl (.inl hs), k _ ι H (Le.refl _ _) rm (RV.int _)⟩
def max2F (x y : Out) (m : Mem) : Option (Out × Mem) := match x, y with
  | .v (.int i), .v (.int j) => some (.v (.int (if j > i then j else i)), m)
  | _, _ => none
def min2F (x y : Out) (m : Mem) : Option (Out × Mem) := match x, y with
  | .v (.int i), .v (.int j) => some (.v (.int (if j < i then j else i)), m)
  | _, _ => none
theorem max2U {K : PySem.W.Frag} : R2S K (fun v u H Q => (fun xs H (Q : VK) => ∃ i j, xs = [V.int i, V.int j] ∧ Q (.int (if j > i then j else i)) H) [v, u] H Q) max2F := by
  intro ι H H0 m x y z vx vy m' Q rm bd rx ry hf k
  unfold max2F at hf
  split at hf
  · cases hf; cases rx; cases ry
    exact ⟨_, _, rfl, k _ ι H (Le.refl _ _) rm (RV.int _)⟩
  · cases hf
theorem min2U {K : PySem.W.Frag} : R2S K (fun v u H Q => (fun xs H (Q : VK) => ∃ i j, xs = [V.int i, V.int j] ∧ Q (.int (if j < i then j else i)) H) [v, u] H Q) min2F := by
  intro ι H H0 m x y z vx vy m' Q rm bd rx ry hf k
  unfold min2F at hf
  split at hf
  · cases hf; cases rx; cases ry
    exact ⟨_, _, rfl, k _ ι H (Le.refl _ _) rm (RV.int _)⟩
  · cases hf
section
variable {X : Cx} {a b : Expr} {p pos : Pos} {fa fb : E}
theorem sorted_ (hm : X.mg "sorted" = none) (ha : SE X a fa) (hg : Gl X "sorted" := by rfl) (hs : starEach [a] X.env = (false, eval a X.env) :: starEach [] X.env := by rfl) (hpl : (backTo pos (starEach [] X.env)).any (·.1) = false := by rfl) : SE X (.Call (.Name "sorted" p) [a] [] pos) (eUn sortF fa) :=
  se_b1 (pe_callB cr_sortedI hg hm (by decide +kernel) (pa1 ha hs) (by decide) (by decide) hs hpl) sortU'
theorem sum_ (hm : X.mg "sum" = none) (ha : SE X a fa) (hc : X.calm = true := by rfl) (hg : Gl X "sum" := by rfl) (hs : starEach [a] X.env = (false, eval a X.env) :: starEach [] X.env := by rfl) (hpl : (backTo pos (starEach [] X.env)).any (·.1) = false := by rfl) : SE X (.Call (.Name "sum" p) [a] [] pos) (eUn sumF fa) :=
  se_b1 (pe_callB (cr_sum hc) hg hm (by decide +kernel) (pa1 ha hs) (by decide) (by decide) hs hpl) sumU
theorem max2_ (hm : X.mg "max" = none) (ha : SE X a fa) (hb : SE X b fb) (hc : X.calm = true := by rfl) (hg : Gl X "max" := by rfl) (hs : starEach [a, b] X.env = (false, eval a X.env) :: starEach [b] X.env := by rfl) (hs2 : starEach [b] X.env = (false, eval b X.env) :: starEach [] X.env := by rfl)
    (hpl : (backTo pos (starEach [b] X.env)).any (·.1) = false := by rfl) : SE X (.Call (.Name "max" p) [a, b] [] pos) (eBin max2F fa fb) :=
  se_b2 (pe_callB (call_max2 hc) hg hm (by decide +kernel) (pa2 ha hb hs hs2) (by decide) (by decide) hs hpl) max2U
theorem min2_ (hm : X.mg "min" = none) (ha : SE X a fa) (hb : SE X b fb) (hc : X.calm = true := by rfl) (hg : Gl X "min" := by rfl) (hs : starEach [a, b] X.env = (false, eval a X.env) :: starEach [b] X.env := by rfl) (hs2 : starEach [b] X.env = (false, eval b X.env) :: starEach [] X.env := by rfl)
    (hpl : (backTo pos (starEach [b] X.env)).any (·.1) = false := by rfl) : SE X (.Call (.Name "min" p) [a, b] [] pos) (eBin min2F fa fb) :=
  se_b2 (pe_callB (call_min2 hc) hg hm (by decide +kernel) (pa2 ha hb hs hs2) (by decide) (by decide) hs hpl) min2U
end
end Q
namespace Q
open PySem L2
/-! ### methods of two arguments -/
@[simp] def eMt2 (T : String) (f : F3) (a b c : E) (ρ : Env) (m : Mem) : Option (Out × Mem) := (a ρ m).bind fun x => if isTyB T x.1 x.2 = true then (b ρ x.2).bind fun y => (c ρ y.2).bind fun z => f x.1 y.1 z.1 z.2 else none
section
variable {X : Cx} {e : Expr} {fa fb fc : E} {f2 : F2} {f3 : F3} {r : V → List V → Hp → VK → Prop} {T : String}
theorem se_mt2 (h0 : PE X e (tBM X.K T r (tE X.K fa) (tCons (tE X.K fb) (tCons (tE X.K fc) tNil)))) (hr : R3N X.K (fun v u t H Q => r v [u, t] H Q) f3) : SE X e (eMt2 T f3 fa fb fc) := pe_imp h0 fun σ H Q ⟨ι, ρ, m, z, m', rs, rm, hf, k⟩ => by
  obtain ⟨x, h1, hf⟩ := bind_some hf
  split at hf
  · rename_i ht
    obtain ⟨y, h2, hf⟩ := bind_some hf
    obtain ⟨t, h3, hf⟩ := bind_some hf
    refine ⟨ι, ρ, m, x.1, x.2, rs, rm, h1, fun v ι1 H1 l1 rm1 ro1 bd1 => ⟨tyV_of rm1 ro1 ht, ?_⟩⟩
    refine ⟨ι1, ρ, x.2, y.1, y.2, rs.mono l1, rm1, h2, fun u ι2 H2 l2 rm2 ro2 bd2 => ?_⟩
    refine ⟨ι2, ρ, y.2, t.1, t.2, (rs.mono l1).mono l2, rm2, h3, fun tv ι3 H3 l3 rm3 ro3 bd3 => ?_⟩
    exact hr ι H ι3 H3 t.2 x.1 y.1 t.1 z v u tv m' _ (l1.tr rm1 (l2.tr rm2 l3)) rm3 bd3 ((ro1.mono l2).mono l3) ((ro2.mono l3).from l1 rm1) (ro3.from (l1.tr rm1 l2) rm2) hf fun w ι4 H4 l4 rm4 ro4 bd4 => k w ι4 H4 l4 rm4 ro4 bd4
  · cases hf
end
/-- xs.insert(i, y), i not below 0 -/
def insOk (i : Int) : Prop := 0 ≤ i ∧ i < 2 ^ 63
noncomputable instance (i : Int) : Decidable (insOk i) := Classical.propDecidable _
theorem insOk_nat {n : Nat} (h : n ≤ 1000000000) : insOk (n : Int) := ⟨by omega, by omega⟩
noncomputable def insF (x : Out) (i : Out) (y : Out) (m : Mem) : Option (Out × Mem) := match x, i with
  | .v (.ref n), .v (.int i) => (match m[n]? with
    | some (.lst xs) => if fits (xs.length + 1) ∧ insOk i then some (.v .non, (val y m).2.set n (.lst (xs.take i.toNat ++ [(val y m).1] ++ xs.drop i.toNat))) else none
    | _ => none)
  | _, _ => none
def rIns : V → List V → Hp → VK → Prop := fun x vs H Q => ∃ (l : Addr) (xs : List V) (i : Int) (y : V), x = .ref l ∧ vs = [.int i, y] ∧ H l = some (.lst xs) ∧ xs.length < sizeLine ∧ 0 ≤ i ∧ i < 2 ^ 63 ∧ Q .non (upd H l (.lst (xs.take i.toNat ++ [y] ++ xs.drop i.toNat)))
theorem insU3 {K : PySem.W.Frag} : R3N K (fun v u t H Q => rIns v [u, t] H Q) insF := by
  intro ι0 H0 ι H m x i y z vx vi vy m' Q l rm bd rx ri ry hf k
  unfold insF at hf
  split at hf
  · split at hf
    · rename_i xs hm
      split at hf
      · rename_i hl; cases hf
        cases ri
        cases rx with
        | ref e =>
          obtain ⟨a, e1, vs, e2, r⟩ := rm.ob _ _ hm
          rw [e] at e1; cases e1
          refine ⟨_, vs, _, vy, rfl, rfl, e2, by rw [← r.length]; exact hl.1, hl.2.1, hl.2.2, ?_⟩
          obtain ⟨ι2, l2, rm2, rv2, _, up, ups⟩ := ry.val l rm (RS.nil K ι H)
          cases up _ _ (RV.ref e) with
          | ref e' =>
            obtain ⟨l3, rm3⟩ := set_lst rm2 e' e2 ((((ups _ _ r).take _).append (.cons rv2 .nil)).append ((ups _ _ r).drop _))
            exact k _ ι2 _ (l2.tr rm2 l3) rm3 RV.non
      · cases hf
    · cases hf
  · cases hf
theorem mt_ins {X : Cx} : MtR X "list.insert" rIns := mt_insert
theorem ins_ {X : Cx} {e : Expr} {fa fb fc : E} (h0 : PE X e (tBM X.K "list" rIns (tE X.K fa) (tCons (tE X.K fb) (tCons (tE X.K fc) tNil)))) : SE X e (eMt2 "list" insF fa fb fc) := se_mt2 h0 insU3
theorem ins_eq {n : Nat} {xs : List D} {M : Mem} {i : Nat} {d : D} (h : M[n]? = some (.lst xs)) (hf : xs.length ≤ 90000) (hi : i ≤ 1000000000) : insF (.v (.ref n)) (.v (.int (i : Int))) (.v d) M = some (.v .non, M.set n (.lst (xs.take i ++ [d] ++ xs.drop i))) := by
  simp only [insF, h, if_pos (show fits (xs.length + 1) ∧ insOk (i : Int) from ⟨fits_of (by omega), insOk_nat hi⟩), val_v, Int.toNat_natCast]
/-! ### max, min of a list of ints -/
def maxI : List Int → Int
  | [] => 0
  | n :: ns => ns.foldl max n
def minI : List Int → Int
  | [] => 0
  | n :: ns => ns.foldl min n
theorem foldl_max (ns : List Int) : ∀ n : Int, (ns.foldl max n = n ∨ ns.foldl max n ∈ ns) ∧ n ≤ ns.foldl max n ∧ ∀ y ∈ ns, y ≤ ns.foldl max n := by
  induction ns with
  | nil => intro n; simp
  | cons a ns ih =>
    intro n
    obtain ⟨h1, h2, h3⟩ := ih (max n a)
    simp only [List.foldl_cons]
    refine ⟨?_, by omega, fun y hy => ?_⟩
    · rcases h1 with h1 | h1
      · rw [h1]
        by_cases h : n ≤ a
        · right; rw [Int.max_eq_right h]; simp
        · left; rw [Int.max_eq_left (by omega)]
      · right; simp [h1]
    · rcases List.mem_cons.mp hy with rfl | hy
      · omega
      · exact h3 y hy
theorem foldl_min (ns : List Int) : ∀ n : Int, (ns.foldl min n = n ∨ ns.foldl min n ∈ ns) ∧ ns.foldl min n ≤ n ∧ ∀ y ∈ ns, ns.foldl min n ≤ y := by
  induction ns with
  | nil => intro n; simp
  | cons a ns ih =>
    intro n
    obtain ⟨h1, h2, h3⟩ := ih (min n a)
    simp only [List.foldl_cons]
    refine ⟨?_, by omega, fun y hy => ?_⟩
    · rcases h1 with h1 | h1
      · rw [h1]
        by_cases h : n ≤ a
        · left; rw [Int.min_eq_left h]
        · right; rw [Int.min_eq_right (by omega)]; simp
      · right; simp [h1]
    · rcases List.mem_cons.mp hy with rfl | hy
      · omega
      · exact h3 y hy
theorem maxI_mem {ns : List Int} (h : ns ≠ []) : maxI ns ∈ ns ∧ ∀ y ∈ ns, y ≤ maxI ns := by
  cases ns with
  | nil => exact absurd rfl h
  | cons n ns =>
    obtain ⟨h1, h2, h3⟩ := foldl_max ns n
    refine ⟨?_, fun y hy => ?_⟩
    · rcases h1 with h1 | h1
      · simp [maxI, h1]
      · simp [maxI, h1]
    · rcases List.mem_cons.mp hy with rfl | hy
      · exact h2
      · exact h3 y hy
theorem minI_mem {ns : List Int} (h : ns ≠ []) : minI ns ∈ ns ∧ ∀ y ∈ ns, minI ns ≤ y := by
  cases ns with
  | nil => exact absurd rfl h
  | cons n ns =>
    obtain ⟨h1, h2, h3⟩ := foldl_min ns n
    refine ⟨?_, fun y hy => ?_⟩
    · rcases h1 with h1 | h1
      · simp [minI, h1]
      · simp [minI, h1]
    · rcases List.mem_cons.mp hy with rfl | hy
      · exact h2
      · exact h3 y hy
/-! ### {} and {k: v} as things -/
@[simp] def eKnew (_ : Env) (m : Mem) : Option (Out × Mem) := some (.o (.dct []), m)
theorem se_knew {X : Cx} {pos : Pos} : SE X (.Dict [] [] pos) eKnew := pe_imp pe_dnewK fun σ H Q ⟨ι, ρ, m, z, m', rs, rm, hf, k⟩ => by
  cases hf
  intro p hp bd
  exact k _ ι _ (Le.newAt hp) (rm.newAt hp) ⟨p, rfl, hp, fun z => rm.there p z hp, [], upd_same, .nil⟩ bd
/-- a key that is a number or a text -/
def key1 : D → Option Key
  | .int i => some (.inl i)
  | .str s => some (.inr s)
  | _ => none
theorem key1_kD {d : D} {k : Key} (h : key1 d = some k) : d = kD k := by
  cases d <;> simp [key1] at h <;> subst h <;> rfl
theorem kD_inj {k j : Key} (h : kD k = kD j) : k = j := by
  cases k <;> cases j <;> simp [kD] at h <;> subst h <;> rfl
/-- the pairs of a display -/
def pairsK : List D → Option (List (D × D))
  | [] => some []
  | k :: v :: r => (key1 k).bind fun _ => (pairsK r).bind fun ps => if (ps.map (·.1)).all (fun j => !(j.eqb k)) then some ((k, v) :: ps) else none
  | _ => none
@[simp] def eKd (fr : A) (ρ : Env) (m : Mem) : Option (Out × Mem) := (fr ρ m).bind fun x => (pairsK x.1).bind fun kvs => if kvs.length ≤ 15 then some (.o (.dct kvs), x.2) else none
def flatP : List (V × V) → List V
  | [] => []
  | p :: r => p.1 :: p.2 :: flatP r
def tPs (K : PySem.W.Frag) (fr : A) : St → Hp → (List (V × V) → Hp → Prop) → Prop := fun σ H Q => ∃ ι ρ m ds m', RS K ι H σ ρ ∧ RM K ι H m ∧ fr ρ m = some (ds, m') ∧ ∀ ps ι' H', Le ι H ι' H' → RM K ι' H' m' → RVs K ι' H' ds (flatP ps) → Q ps H'
def SPs (X : Cx) (pos : Pos) (keys : List (Option Expr)) (values : List Expr) (fr : A) : Prop := ∃ trs, PPs X pos keys values trs ∧ ∀ σ H Q, tPs X.K fr σ H Q → tPairs trs σ H Q
theorem sps_nil {X : Cx} {pos : Pos} : SPs X pos [] [] aNil := ⟨[], pps_nil, fun σ H Q ⟨ι, ρ, m, ds, m', rs, rm, hf, k⟩ => by
  cases hf
  exact k [] ι H (Le.refl _ _) rm .nil⟩
theorem sps_cons {X : Cx} {pos : Pos} {a b : Expr} {fa fb : E} {ks : List (Option Expr)} {vs : List Expr} {fr : A} (ha : SE X a fa) (hb : SE X b fb) (hr : SPs X pos ks vs fr) : SPs X pos (some a :: ks) (b :: vs) (aCons fa (aCons fb fr)) := by
  obtain ⟨trs, h1, h2⟩ := hr
  refine ⟨_, pps_cons ha hb h1, fun σ H Q ⟨ι, ρ, m, ds, m', rs, rm, hf, k⟩ => ?_⟩
  obtain ⟨x, h3, hf⟩ := bind_some hf
  obtain ⟨y, h4, hf⟩ := bind_some hf
  obtain ⟨u, h5, h4⟩ := bind_some h4
  obtain ⟨w, h6, h4⟩ := bind_some h4
  cases h4
  cases hf
  refine ⟨ι, ρ, m, x.1, x.2, rs, rm, h3, fun v ι1 H1 l1 rm1 ro1 bd1 => ?_⟩
  obtain ⟨ι1', l1', rm1', rv1, rs1, _, _⟩ := ro1.val l1 rm1 (rs.mono l1)
  refine ⟨ι1', ρ, _, u.1, u.2, rs1, rm1', h5, fun v2 ι2 H2 l2 rm2 ro2 bd2 => ?_⟩
  obtain ⟨ι2', l2', rm2', rv2, rs2, _, _⟩ := ro2.val l2 rm2 (rs1.mono l2)
  refine h2 σ H2 _ ⟨ι2', ρ, _, w.1, w.2, rs2, rm2', h6, fun ps ι3 H3 l3 rm3 rvs => ?_⟩
  exact k ((v, v2) :: ps) ι3 H3 (l1'.tr rm1' (l2'.tr rm2' l3)) rm3 (.cons ((rv1.mono l2').mono l3) (.cons (rv2.mono l3) rvs))
theorem eqb_key {d e : D} {k j : Key} (h1 : key1 d = some k) (h2 : key1 e = some j) (h : d.eqb e = false) : k ≠ j := by
  intro z
  subst z
  rw [key1_kD h1, key1_kD h2] at h
  cases k <;> simp [kD, D.eqb] at h
theorem pairs_rel {K : PySem.W.Frag} {ι : List Addr} {H : Hp} : ∀ (n : Nat) (ds : List D), ds.length ≤ n → ∀ {ps : List (V × V)} {kvs : List (D × D)}, RVs K ι H ds (flatP ps) → pairsK ds = some kvs →
    ∃ ks : List (Key × V), ps = ks.map (fun kv => (kV kv.1, kv.2)) ∧ Paired (fun (p : D × D) (q : Key × V) => p.1 = kD q.1 ∧ RV K ι H p.2 q.2) kvs ks ∧ (ks.map (·.1)).Nodup ∧ (∀ p ∈ kvs, ∃ q ∈ ks, p.1 = kD q.1) ∧ ∀ q ∈ ks, ∃ p ∈ kvs, p.1 = kD q.1
  | _, [], _, ps, kvs, r, h => by
    cases ps with
    | nil => cases h; exact ⟨[], rfl, .nil, by simp, by simp, by simp⟩
    | cons p ps => cases r
  | _, [_], _, ps, kvs, r, h => by cases h
  | 0, _ :: _ :: _, hn, _, _, _, _ => by simp at hn
  | n + 1, d :: e :: r0, hn, ps, kvs, r, h => by
    rw [pairsK] at h
    obtain ⟨k, h1, h⟩ := bind_some h
    obtain ⟨qs, h2, h⟩ := bind_some h
    split at h
    · rename_i hall
      cases h
      cases ps with
      | nil => cases r
      | cons p ps =>
        cases r with
        | cons ra r =>
          cases r with
          | cons rb r =>
            obtain ⟨ks, e1, e2, e3, e4, e5⟩ := pairs_rel n r0 (by simp at hn; omega) r h2
            subst e1
            obtain ⟨pa, pb⟩ := p
            have hk := key1_kD h1
            subst hk
            refine ⟨(k, pb) :: ks, ?_, .cons ⟨rfl, rb⟩ e2, ?_, ?_, ?_⟩
            · cases k with
              | inl i => cases ra; rfl
              | inr i => cases ra; rfl
            · rw [List.map_cons, List.nodup_cons]
              refine ⟨fun hm => ?_, e3⟩
              obtain ⟨q, hq, eq⟩ := List.mem_map.mp hm
              obtain ⟨p', hp', ep'⟩ := e5 q hq
              rw [List.all_eq_true] at hall
              have := hall p'.1 (List.mem_map_of_mem hp')
              rw [ep', eq] at this
              cases k <;> simp [kD, D.eqb] at this
            · intro p hp
              rcases List.mem_cons.mp hp with rfl | hp
              · exact ⟨_, List.mem_cons_self, rfl⟩
              · obtain ⟨q, hq, e⟩ := e4 p hp; exact ⟨q, List.mem_cons_of_mem _ hq, e⟩
            · intro q hq
              rcases List.mem_cons.mp hq with rfl | hq
              · exact ⟨_, List.mem_cons_self, rfl⟩
              · obtain ⟨p, hp, e⟩ := e5 q hq; exact ⟨p, List.mem_cons_of_mem _ hp, e⟩
    · cases h
theorem mergeK_nd : ∀ (ks acc : List (Key × V)), ((acc ++ ks).map (·.1)).Nodup → mergeK acc ks = acc ++ ks
  | [], acc, _ => by simp [mergeK]
  | q :: ks, acc, h => by
    have hn : valV acc q.1 = none := by
      cases e : valV acc q.1 with
      | none => rfl
      | some v =>
        exfalso
        have h1 := valV_any q.1 acc
        rw [e] at h1
        simp only [Option.isSome_some, List.any_eq_true, decide_eq_true_eq] at h1
        obtain ⟨p, hp, ep⟩ := h1
        rw [List.map_append, List.nodup_append] at h
        exact h.2.2 p.1 (List.mem_map_of_mem hp) q.1 (by simp) ep
    have e : mergeK acc (q :: ks) = mergeK (acc ++ [q]) ks := by
      show mergeK (putK acc q.1 q.2) ks = _
      rw [putK_new _ hn]
    rw [e, mergeK_nd ks (acc ++ [q]) (by simpa using h)]
    simp
theorem paired_len {α β : Type} {R : α → β → Prop} {xs : List α} {ys : List β} (h : Paired R xs ys) : xs.length = ys.length := by
  induction h with
  | nil => rfl
  | cons _ _ ih => simp [ih]
theorem se_kd {X : Cx} {pos : Pos} {keys : List (Option Expr)} {values : List Expr} {fr : A} (h : SPs X pos keys values fr) (hall : keys.all (·.isSome) = true) (hl : keys.length = values.length) (h0 : keys ≠ []) (h15 : keys.length ≤ 15) : SE X (.Dict keys values pos) (eKd fr) := by
  obtain ⟨trs, h1, h2⟩ := h
  refine pe_imp (pe_disp h1 hall hl h0 h15) fun σ H Q ⟨ι, ρ, m, z, m', rs, rm, hf, k⟩ => ?_
  obtain ⟨x, h3, hf⟩ := bind_some hf
  obtain ⟨kvs, h4, hf⟩ := bind_some hf
  split at hf
  · rename_i hk15
    cases hf
    intro p hp
    have hpi : p ∉ ι := fun z => rm.there p z hp
    refine h2 σ _ _ ⟨ι, ρ, m, x.1, x.2, rs.mono (Le.newAt hp), rm.newAt hp, h3, fun ps ι2 H2 l2 rm2 rvs => ?_⟩
    have e2 : H2 p = some (.dK []) := l2.keep p _ upd_same (.inr hpi)
    have hp2 : p ∉ ι2 := fun hm => by
      obtain ⟨nw, e, f⟩ := l2.pre
      rw [e] at hm
      rcases List.mem_append.mp hm with z | z
      · exact hpi z
      · have := f p z; rw [upd_same] at this; cases this
    obtain ⟨ks, e3, e4, e5, _, _⟩ := pairs_rel _ x.1 (Nat.le_refl _) rvs h4
    refine ⟨e2, ks, e3, by rw [← paired_len e4]; exact hk15, ?_⟩
    rw [mergeK_nd ks [] (by simpa using e5), List.nil_append]
    have mu : Mut (H2 p) := by rw [e2]; trivial
    have ku : Kp ι2 H2 ι2 (upd H2 p (.dK ks)) := Kp.upd mu
    refine fun bd => k (.ref p) ι2 _ ?_ ?_ ⟨p, rfl, hp, hp2, ks, upd_same, Paired.mapP e4 fun _ _ z => ⟨z.1, z.2.kp ku⟩⟩ bd
    · obtain ⟨nw, e, f⟩ := l2.pre
      refine ⟨⟨nw, e, fun a ha => ?_⟩, fun a o h c => ?_⟩
      · have := f a ha
        by_cases z : a = p
        · subst z; exact hp
        · rw [upd_ne z] at this; exact this
      · have z : a ≠ p := ne_of_none h hp
        rw [upd_ne z]
        exact l2.keep a o (by rw [upd_ne z]; exact h) c
    · exact ⟨rm2.nd, rm2.len, fun n b e => let ⟨a, e1, rb⟩ := rm2.ob n b e; ⟨a, e1, rb.kp ku (upd_ne fun z => by subst z; exact hp2 (List.mem_of_getElem? e1))⟩⟩
  · cases hf
end Q
namespace Q
open PySem L2 DV
/-! ### {k: v} by its entries -/
def tDispR (K : PySem.W.Frag) (tk tv : TE) : TE := fun σ H Q => ∀ p, H p = none → (p == sysModules) = false → tk σ (upd H p (RawO p #[])) fun y H1 => tv σ H1 fun v H2 => H2 p = some (RawO p #[]) ∧ ∃ k, KN K H2 k y ∧ k.depth ≤ 8 ∧
  ∀ es', Paired (EntV K H2) [(k, v)] es'.toList → Q (.ref p) (upd H2 p (RawO p es'))
theorem pe_dispR {X : Cx} {a b : Expr} {tk tv : TE} {pos : Pos} (hu : X.A.units + 65 < cLine) (ha : PE X a tk) (hb : PE X b tv) : PE X (.Dict [some a] [b] pos) (tDispR X.K tk tv) := by
  refine ⟨fun pins s σ H Q I q => ?_⟩
  have hn := I.hok.fresh (Nat.le_refl s.heap.objs.size)
  have I1 := I.laid (a := s.heap.objs.size) (o := RawO s.heap.objs.size #[]) (h' := s.heap.push { cls := .type "dict", data := .dict #[] }) (t' := s.toks) (fun _ _ q => Heap.get?_push_of_some _ q) (Nat.le_refl _) (rawO_new ⟨_, Heap.get?_push_size _ rfl, ⟨rfl, rfl, rfl⟩, rfl⟩)
  have hbig : (s.heap.objs.size == sysModules) = false := beq_eq_false_iff_ne.mpr (Ne.symm (Nat.ne_of_lt I.big))
  rw [arm_eval_Dict, zip_pairTrees [some a] [b] X.env pos rfl rfl, dictDisplay_pairs (pairTrees [some a] [b] X.env pos) (by intro z; cases z) (by show (1 : Nat) < 17; decide)]
  refine wpAny_bind (wpAny_standAt (wpAny_bind ?_))
  unfold subDict
  refine wpAny_bind (wpAny_alloc ?_)
  refine wpAny_bind (wpAny_holding ?_)
  rw [if_pos (by show (1 : Nat) ≤ 15; decide)]
  refine wpAny_bind (pairTrees_cons_walk (thn (ha.run pins _ σ _ _ I1 (q _ hn hbig)) fun u s1 ⟨y, H1, I2, ry, q1⟩ => thn (hb.run pins s1 σ H1 _ I2 q1) fun w2 s2 ⟨v, H2, I3, rv, hp2, k, hk, hd, q2⟩ => pairTrees_nil_walk ?_))
  refine wpAny_holding ?_
  refine wpAny_bind ?_
  rw [List.forIn_cons]
  obtain ⟨es, xs, e1, hm, hp⟩ := dok_of I3 (ks := []) ⟨#[], hp2, .nil, by simp, by simp, hbig⟩
  cases hp
  refine wpAny_bind (wpAny_bind (dset (k := k) (by omega) ⟨hk.is I3 ry, hd⟩ hm (by rw [sizeLine_eq]; decide) fun h' es' hm' hs => wpAny_pure ?_))
  simp only [List.forIn_nil]
  have r' := hm'.raw
  have he : ∃ u, h'.get? s.heap.objs.size = some u := let ⟨o, ho, _⟩ := r'; ⟨o, ho⟩
  refine wpAny_pure (wpAny_pure (wpAny_pure (wpAny_pure ?_)))
  have hse := sto_ents (ks := []) .nil hk ry hd rv hm'
  exact ⟨.ref s.heap.objs.size, upd H2 s.heap.objs.size (RawO s.heap.objs.size es'), I3.write (e := s.heap.objs.size) (t' := s2.toks + k.draws) (by rw [hp2]; trivial) (.inl rfl) (fun b u hb hu => (hs.2 b hb).trans hu) he (rawO_new r'), rfl, q2 es' hse⟩
noncomputable def dispF (x y : Out) (m : Mem) : Option (Out × Mem) := (keyOf x).bind fun k => match y with | .v d => some (.o (.dcr [(k, d)]), m) | _ => none
theorem se_disp {X : Cx} {a b : Expr} {fa fb : E} {pos : Pos} {k : Nat} (hr : Room k X.A) (ha : SE X a fa) (hb : SE X b fb) : SE X (.Dict [some a] [b] pos) (eBin dispF fa fb) := pe_imp (pe_dispR (u65 hr) ha hb) fun σ H Q ⟨ι, ρ, m, z, m', rs, rm, hf, k⟩ => by
  obtain ⟨x, h1, hf⟩ := bind_some hf
  obtain ⟨y, h2, hf⟩ := bind_some hf
  obtain ⟨d, h3, hf⟩ := bind_some hf
  split at hf
  · rename_i dv ey
    cases hf
    intro p hp hsm
    have hpi : p ∉ ι := fun z => rm.there p z hp
    refine ⟨ι, ρ, m, x.1, x.2, rs.mono (Le.newAt hp), rm.newAt hp, h1, fun v ι1 H1 l1 rm1 ro1 bd1 => ?_⟩
    refine ⟨ι1, ρ, x.2, y.1, y.2, (rs.mono (Le.newAt hp)).mono l1, rm1, h2, fun u ι2 H2 l2 rm2 ro2 bd2 => ?_⟩
    have l12 := l1.tr rm1 l2
    have e2 : H2 p = some (RawO p #[]) := l12.keep p _ upd_same (.inr hpi)
    have hp2 : p ∉ ι2 := fun hm => by
      obtain ⟨nw, e, f⟩ := l12.pre
      rw [e] at hm
      rcases List.mem_append.mp hm with z | z
      · exact hpi z
      · have := f p z; rw [upd_same] at this; cases this
    obtain ⟨nk', e3, e4, e5⟩ := key_at (ro1.mono l2) h3
    subst e3
    rw [ey] at ro2
    have rv : RV X.K ι2 H2 dv u := ro2
    refine ⟨e2, nk', e4, e5, fun es' hes bd => ?_⟩
    have mu : Mut (H2 p) := by rw [e2]; trivial
    have ku : Kp ι2 H2 ι2 (upd H2 p (RawO p es')) := Kp.upd mu
    refine k (.ref p) ι2 _ ?_ ?_ ⟨p, rfl, hp, hp2, [(nk', u)], ⟨es', upd_same, Paired.mapP hes fun x e ⟨⟨kv, z1, z2⟩, z3⟩ => ⟨⟨kv, z1.kp ku, z2⟩, z3⟩, by simp, by rw [sizeLine_eq]; simp, hsm⟩, .cons ⟨rfl, rv.kp ku⟩ .nil⟩ bd
    · obtain ⟨nw, e, f⟩ := l12.pre
      refine ⟨⟨nw, e, fun a ha => ?_⟩, fun a o h c => ?_⟩
      · have := f a ha
        by_cases z : a = p
        · subst z; exact hp
        · rw [upd_ne z] at this; exact this
      · have z : a ≠ p := ne_of_none h hp
        rw [upd_ne z]
        exact l12.keep a o (by rw [upd_ne z]; exact h) c
    · exact ⟨rm2.nd, rm2.len, fun n b e => let ⟨a, e1, rb⟩ := rm2.ob n b e; ⟨a, e1, rb.kp ku (upd_ne fun z => by subst z; exact hp2 (List.mem_of_getElem? e1))⟩⟩
  · cases hf
/-! ### dicts with keys that are numbers or texts: d[k], d[k] = v -/
def kdOf (x : Out) (m : Mem) : Option (List (D × D)) := match x with
  | .v (.ref n) => (match m[n]? with | some (.dct a) => some a | _ => none)
  | _ => none
noncomputable def kixF (x y : Out) (m : Mem) : Option (Out × Mem) := (kdOf x m).bind fun kvs => match y with
  | .v d => (key1 d).bind fun _ => (dlook kvs d).map fun v => (.v v, m)
  | _ => none
theorem klook {K : PySem.W.Frag} {ι : List Addr} {H : Hp} {kvs : List (D × D)} {ks : List (Key × V)} {k : Key} (h : Paired (fun (p : D × D) (q : Key × V) => p.1 = kD q.1 ∧ RV K ι H p.2 q.2) kvs ks) :
    (dlook kvs (kD k) = none ∧ valV ks k = none) ∨ ∃ v u, dlook kvs (kD k) = some v ∧ valV ks k = some u ∧ RV K ι H v u := by
  induction h with
  | nil => exact .inl ⟨rfl, rfl⟩
  | @cons p q ps qs h _ ih =>
    by_cases e : q.1 = k
    · right
      refine ⟨p.2, q.2, ?_, valV_pos e, h.2⟩
      unfold dlook
      rw [List.find?_cons_of_pos (by simp [h.1, e])]; rfl
    · have e2 : ¬ p.1 = kD k := by rw [h.1]; exact fun z => e (kD_inj z)
      have e3 : dlook (p :: ps) (kD k) = dlook ps (kD k) := by
        unfold dlook
        rw [List.find?_cons_of_neg (by simp [e2])]
      rw [e3, valV_neg e]
      exact ih
theorem ksto {K : PySem.W.Frag} {ι : List Addr} {H : Hp} {kvs : List (D × D)} {ks : List (Key × V)} {k : Key} {v : D} {u : V} (h : Paired (fun (p : D × D) (q : Key × V) => p.1 = kD q.1 ∧ RV K ι H p.2 q.2) kvs ks) (hv : RV K ι H v u) :
    Paired (fun (p : D × D) (q : Key × V) => p.1 = kD q.1 ∧ RV K ι H p.2 q.2) (dsto kvs (kD k) v) (putK ks k u) := by
  unfold dsto putK
  have hb : (ks.any fun kv => decide (kv.1 = k)) = (dlook kvs (kD k)).isSome := by
    rw [valV_any]
    rcases klook (k := k) h with ⟨h1, h2⟩ | ⟨_, _, h1, h2, _⟩ <;> rw [h1, h2] <;> rfl
  rw [hb]
  by_cases hs : (dlook kvs (kD k)).isSome = true
  · rw [if_pos hs, if_pos hs]
    clear hb hs
    induction h with
    | nil => exact .nil
    | @cons p q ps qs h _ ih =>
      refine .cons ?_ ih
      by_cases e : q.1 = k
      all_goals simp only
      · rw [if_pos e, if_pos (by rw [h.1, e])]; exact ⟨h.1, hv⟩
      · rw [if_neg e, if_neg (by rw [h.1]; exact fun z => e (kD_inj z))]; exact h
  · rw [if_neg hs, if_neg hs]
    clear hb hs
    induction h with
    | nil => exact .cons ⟨rfl, hv⟩ .nil
    | cons h _ ih => exact .cons h ih
theorem key1_v {K : PySem.W.Frag} {ι : List Addr} {H : Hp} {d : D} {v : V} {k : Key} (r : RV K ι H d v) (h : key1 d = some k) : v = kV k := by
  cases d <;> simp [key1] at h <;> subst h <;> cases r <;> rfl
theorem se_kix {X : Cx} {a b : Expr} {fa fb : E} {pos : Pos} {k : Nat} (hr : Room k X.A) (ha : SE X a fa) (hb : SE X b fb) (hs : NoSl b := by exact fun _ _ => rfl) : SE X (.Subscript a b pos) (eBin kixF fa fb) :=
  pe_imp (pe_dget (hu_of hr) ha hb hs) fun σ H Q ⟨ι, ρ, m, z, m', rs, rm, hf, k⟩ => by
  obtain ⟨x, h1, hf⟩ := bind_some hf
  obtain ⟨y, h2, hf⟩ := bind_some hf
  obtain ⟨kvs, h3, hf⟩ := bind_some hf
  refine ⟨ι, ρ, m, x.1, x.2, rs, rm, h1, fun v ι1 H1 l1 rm1 ro1 bd1 => ?_⟩
  refine ⟨ι1, ρ, x.2, y.1, y.2, rs.mono l1, rm1, h2, fun u ι2 H2 l2 rm2 ro2 bd2 => ?_⟩
  split at hf
  · rename_i d ey
    obtain ⟨kk, h4, hf⟩ := bind_some hf
    obtain ⟨dv, h5, h6⟩ := Option.map_eq_some_iff.mp hf
    cases h6
    rw [ey] at ro2
    have ru := key1_v ro2 h4
    subst ru
    have ro1' := ro1.mono l2
    unfold kdOf at h3
    split at h3
    · rename_i n ex
      split at h3
      · rename_i kvs' hm; cases h3
        rw [ex] at ro1'
        cases ro1' with
        | ref e =>
          obtain ⟨a, e1, ks, e2, r⟩ := rm2.ob _ _ hm
          rw [e] at e1; cases e1
          rw [key1_kD h4] at h5
          rcases klook (k := kk) r with ⟨q1, q2⟩ | ⟨v0, u0, q1, q2, rr⟩
          · rw [q1] at h5; cases h5
          · rw [q1] at h5; cases h5
            exact ⟨_, u0, rfl, by have := DGet.k (k := kk) e2; rw [q2] at this; exact this, fun bd => k _ ι2 H2 (l1.tr rm1 l2) rm2 rr bd⟩
      · cases h3
    · cases h3
  · cases hf
noncomputable def kstoF (o i : Out) (d : D) (m : Mem) : Option Mem := match o with
  | .v (.ref n) => (match m[n]? with
    | some (.dct kvs) => (match i with | .v kd => (key1 kd).bind fun _ => if fits (kvs.length + 1) then some (m.set n (.dct (dsto kvs kd d))) else none | _ => none)
    | _ => none)
  | _ => none
@[simp] noncomputable def sKput (e o i : E) (ρ : Env) (m : Mem) : Option R := (e ρ m).bind fun x => (o ρ (val x.1 x.2).2).bind fun y => (i ρ y.2).bind fun z => (kstoF y.1 z.1 (val x.1 x.2).1 z.2).bind fun m' => some (.nx ρ m')
theorem set_dct {K : PySem.W.Frag} {ι : List Addr} {H : Hp} {m : Mem} {n : Nat} {a : Addr} {ks : List (Key × V)} {kvs' : List (D × D)} {ks' : List (Key × V)} (rm : RM K ι H m) (e : ι[n]? = some a) (h : H a = some (.dK ks))
    (r : Paired (fun (p : D × D) (q : Key × V) => p.1 = kD q.1 ∧ RV K ι H p.2 q.2) kvs' ks') : Le ι H ι (upd H a (.dK ks')) ∧ RM K ι (upd H a (.dK ks')) (m.set n (.dct kvs')) := by
  have mu : Mut (H a) := by rw [h]; trivial
  have ku : Kp ι H ι (upd H a (.dK ks')) := Kp.upd mu
  have hi : a ∈ ι := List.mem_of_getElem? e
  refine ⟨⟨⟨[], by simp, by simp⟩, fun b u hb c => ?_⟩, rm.nd, by rw [List.length_set]; exact rm.len, fun j b hb => ?_⟩
  · by_cases z : b = a
    · subst z
      rcases c with c | c
      · rw [hb] at mu; exact (nofz mu c).elim
      · exact absurd hi c
    · rw [upd_ne z]; exact hb
  · by_cases hj : n = j
    · subst hj
      have hl : n < m.length := by rw [← rm.len]; exact (List.getElem?_eq_some_iff.mp e).1
      rw [List.getElem?_set_self hl] at hb
      cases hb
      exact ⟨a, e, ks', upd_same, Paired.mapP r fun _ _ z => ⟨z.1, z.2.kp ku⟩⟩
    · rw [List.getElem?_set_ne hj] at hb
      obtain ⟨b', e1, rb⟩ := rm.ob j b hb
      refine ⟨b', e1, rb.kp ku (upd_ne fun z => hj ?_)⟩
      subst z
      have h1 := (List.getElem?_eq_some_iff.mp e)
      have h2 := (List.getElem?_eq_some_iff.mp e1)
      exact nd_inj rm.nd h1.1 h2.1 (h1.2.trans h2.2.symm)
theorem ss_kput {X : Cx} {st : Stmt} {fe fo fi : E} (h0 : PS X st (sDPut (tE X.K fo) (tE X.K fi) (tE X.K fe))) : SS X st (sKput fe fo fi) := ps_imp h0 fun D σ H ⟨ι, ρ, m, r, rs, rm, hf, k⟩ => by
  obtain ⟨x, h1, hf⟩ := bind_some hf
  obtain ⟨y, h2, hf⟩ := bind_some hf
  obtain ⟨z, h3, hf⟩ := bind_some hf
  obtain ⟨m', h4, hf⟩ := bind_some hf
  cases hf
  refine ⟨ι, ρ, m, x.1, x.2, rs, rm, h1, fun v ι1 H1 l1 rm1 ro1 bd1 => ?_⟩
  obtain ⟨ι1', l1', rm1', rv1, rs1, _, _⟩ := ro1.val l1 rm1 (rs.mono l1)
  refine ⟨ι1', ρ, _, y.1, y.2, rs1, rm1', h2, fun v2 ι2 H2 l2 rm2 ro2 bd2 => ?_⟩
  refine ⟨ι2, ρ, y.2, z.1, z.2, rs1.mono l2, rm2, h3, fun v3 ι3 H3 l3 rm3 ro3 bd3 => ?_⟩
  unfold kstoF at h4
  split at h4
  · rename_i n ey
    split at h4
    · rename_i kvs hm
      split at h4
      · rename_i kd ez
        obtain ⟨kk, h5, h4⟩ := bind_some h4
        split at h4
        · rename_i hz; cases h4
          have ro2' := ro2.mono l3
          rw [ey] at ro2'
          rw [ez] at ro3
          have ru := key1_v ro3 h5
          subst ru
          cases ro2' with
          | ref e =>
            obtain ⟨a, e1, ks, e2, r⟩ := rm3.ob _ _ hm
            rw [e] at e1; cases e1
            have hkd := key1_kD h5
            subst hkd
            obtain ⟨l4, rm4⟩ := set_dct rm3 e e2 (ksto (k := kk) r ((rv1.mono l2).mono l3))
            exact ⟨_, _, rfl, DPut.k e2 (by rw [← paired_len r]; exact hz), k σ ι3 _ (l1'.tr rm1' (l2.tr rm2 (l3.tr rm3 l4))) (((rs1.mono l2).mono l3).mono l4) rm4⟩
        · cases h4
      · cases h4
    · cases h4
  · cases h4
end Q
/-! xs.index(x), xs a list of data -/
namespace Q
open PySem L2
def idxLF (x y : Out) (m : Mem) : Option (Out × Mem) := (lstOf x m).bind fun ds => match y with
  | .v a => if okL 63 ds = true ∧ okD 64 a = true then (ds.findIdx? fun d => d.eqb a).map fun j => (.v (.int (j : Nat)), m) else none
  | _ => none
theorem okL_mem' {n : Nat} : ∀ {xs : List D} {d : D}, okL n xs = true → d ∈ xs → okD n d = true
  | [], _, _, h => by simp at h
  | x :: xs, d, h, hd => by
    rw [okL, Bool.and_eq_true] at h
    rcases List.mem_cons.mp hd with rfl | hd
    · exact h.1
    · exact okL_mem' h.2 hd
theorem idxLU {K : PySem.W.Frag} : R2S K (fun v u H Q => rIndexD K v [u] H Q) idxLF := by
  intro ι H H0 m x y z vx vy m' Q rm bd rx ry hf k
  obtain ⟨ds, h1, hf⟩ := bind_some hf
  cases y with
  | o b => cases hf
  | v a =>
    simp only at hf
    split at hf
    · rename_i hc
      obtain ⟨j, e1, e2⟩ := Option.map_eq_some_iff.mp hf
      cases e2
      obtain ⟨p, vs, rfl, hs, r⟩ := lst_at rm rx h1
      have hd := RVs.dp r hc.1
      have ha : Dp K H vy a.pd := RV.dp ry hc.2
      have hfl : okD 64 (.fl ds) = true := by rw [okD]; exact hc.1
      have hsh := shaped_of hfl
      rw [D.pd] at hsh
      obtain ⟨hj, ht, hno⟩ := List.findIdx?_eq_some_iff_getElem.mp e1
      have hget : ∀ (i : Nat) (hi : i < ds.length), (pdL ds)[i]? = some ds[i].pd := by
        intro i hi
        have : ∀ (l : List D) (i : Nat) (hi : i < l.length), (pdL l)[i]? = some l[i].pd := by
          intro l
          induction l with
          | nil => intro i hi; simp at hi
          | cons d l ih =>
            intro i hi
            rw [pdL]
            cases i with
            | zero => rfl
            | succ i => simpa using ih i (by simpa using hi)
        exact this ds i hi
      refine ⟨p, vy, a.pd, pdL ds, j, ds[j].pd, rfl, rfl, .lst (.inl (.inl hs)) hd, ha, hsh, shaped_of hc.2, hget j hj, ?_, fun i z' hi hz => ?_, k _ ι H (Le.refl _ _) rm (RV.int _)⟩
      · rw [pd_eqv ds[j] a 63 64 (okL_mem' hc.1 (List.getElem_mem hj)) hc.2]; exact ht
      · have hi2 : i < ds.length := by omega
        rw [hget i hi2] at hz
        cases hz
        rw [pd_eqv ds[i] a 63 64 (okL_mem' hc.1 (List.getElem_mem hi2)) hc.2]
        simpa using hno i hi
    · cases hf
theorem idxL_ {X : Cx} {e : Expr} {fa fb : E} (h0 : PE X e (tBM X.K "list" (rIndexD X.K) (tE X.K fa) (tCons (tE X.K fb) tNil))) : SE X e (eMt1 "list" idxLF fa fb) := se_mt1 h0 idxLU.n
end Q
/-! chains of three comparisons -/
namespace Q
open PySem L2 PyProof.Rows
def tChain3 (r r' r2 : R2) (ta tb tc td : TE) : TE := fun σ H Q => ta σ H fun x H1 => tb σ H1 fun y H2 => r x y H2 fun z H3 => ∃ k, z = .bl k ∧
  (if k = true then tc σ H3 fun u H4 => r' y u H4 fun z' H5 => ∃ k', z' = .bl k' ∧ (if k' = true then td σ H5 fun w' H6 => r2 u w' H6 Q else Q (.bl false) H5) else Q (.bl false) H3)
section
variable {X : Cx} {a b c d : Expr} {pos : Pos} {ta tb tc td : TE} {fa fb fc fd : E}
theorem pe_chain3 {op op' op2 : CmpOp} {r r' r2 : R2} (ho : OpR X (compareOp op) r) (ho' : OpR X (compareOp op') r') (ho2 : OpR X (compareOp op2) r2) (ha : PE X a ta) (hb : PE X b tb) (hc : PE X c tc) (hd : PE X d td)
    (hm : lastMarks [op, op', op2] [b, c, d] = false := by with_unfolding_all rfl) : PE X (.Compare a [op, op', op2] [b, c, d] pos) (tChain3 r r' r2 ta tb tc td) := by
  refine ⟨fun pins s σ H Q I h => ?_⟩
  refine Compare_chain (thn (ha.run pins s σ H _ I h) fun v s1 ⟨x, H1, I1, r1, q1⟩ => chain_link (thn (hb.run pins s1 σ H1 _ I1 q1) fun u s2 ⟨y, H2, I2, r2', q2⟩ =>
    thn (ho pins s2 σ H2 x y v u _ I2 r1 r2' q2) fun d' s3 ⟨z, H3, I3, r3, k, e, q3⟩ => ?_)) hm
  subst e
  cases r3
  refine wpAny_truthy_bool ?_
  cases k with
  | false => exact ite_ff ⟨.bl false, H3, I3, rfl, q3⟩
  | true =>
    refine ite_tt (chain_link (thn (hc.run pins s3 σ H3 _ I3 q3) fun w' s4 ⟨z', H4, I4, r4, q4⟩ =>
      thn (ho' pins s4 σ H4 y z' u w' _ I4 r2' r4 q4) fun d2 s5 ⟨z2, H5, I5, r5, k2, e2, q5⟩ => ?_))
    subst e2
    cases r5
    refine wpAny_truthy_bool ?_
    cases k2 with
    | false => exact ite_ff ⟨.bl false, H5, I5, rfl, q5⟩
    | true => exact ite_tt (chain_last (thn (hd.run pins s5 σ H5 _ I5 q5) fun w3 s6 ⟨z3, H6, I6, r6, q6⟩ => ho2 pins s6 σ H6 z' z3 w' w3 Q I6 r4 r6 q6))
@[simp] def eChain3 (f g h : F2) (a b c d : E) (ρ : Env) (m : Mem) : Option (Out × Mem) := (a ρ m).bind fun x => (b ρ x.2).bind fun y => (f x.1 y.1 y.2).bind fun z => match z.1 with
  | .v (.bl true) => (c ρ z.2).bind fun w => (g y.1 w.1 w.2).bind fun z2 => match z2.1 with
    | .v (.bl true) => (d ρ z2.2).bind fun u => h w.1 u.1 u.2
    | .v (.bl false) => some (.v (.bl false), z2.2)
    | _ => none
  | .v (.bl false) => some (.v (.bl false), z.2)
  | _ => none
theorem se_chain3 {e : Expr} {r r' r2 : R2} {f g h : F2} (h0 : PE X e (tChain3 r r' r2 (tE X.K fa) (tE X.K fb) (tE X.K fc) (tE X.K fd))) (hr : R2S X.K r f) (hr' : R2S X.K r' g) (hr2 : R2S X.K r2 h) : SE X e (eChain3 f g h fa fb fc fd) :=
  pe_imp h0 fun σ H Q ⟨ι, ρ, m, z, m', rs, rm, hf, k⟩ => by
  obtain ⟨x, h1, hf⟩ := bind_some hf
  obtain ⟨y, h2, hf⟩ := bind_some hf
  obtain ⟨t, h3, hf⟩ := bind_some hf
  obtain ⟨t1, t2⟩ := t
  refine ⟨ι, ρ, m, x.1, x.2, rs, rm, h1, fun v ι1 H1 l1 rm1 ro1 bd1 => ?_⟩
  refine ⟨ι1, ρ, x.2, y.1, y.2, rs.mono l1, rm1, h2, fun u ι2 H2 l2 rm2 ro2 bd2 => ?_⟩
  refine hr ι2 H2 H y.2 x.1 y.1 t1 v u t2 _ rm2 bd2 (ro1.mono l2) (ro2.from l1 rm1) h3 fun w ι3 H3 l3 rm3 ro3 => ?_
  split at hf
  · rename_i e1
    simp only at e1
    subst e1
    cases ro3
    obtain ⟨q, h4, hf⟩ := bind_some hf
    obtain ⟨t', h5, hf⟩ := bind_some hf
    obtain ⟨t3, t4⟩ := t'
    refine ⟨true, rfl, ?_⟩
    rw [if_pos rfl]
    have L3 := l1.tr rm1 (l2.tr rm2 l3)
    refine ⟨ι3, ρ, t2, q.1, q.2, ((rs.mono l1).mono l2).mono l3, rm3, h4, fun w' ι4 H4 l4 rm4 ro4 bd4 => ?_⟩
    refine hr' ι4 H4 H q.2 y.1 q.1 t3 u w' t4 _ rm4 bd4 (((ro2.mono l3).mono l4).from l1 rm1) (ro4.from L3 rm3) h5 fun w5 ι5 H5 l5 rm5 ro5 => ?_
    split at hf
    · rename_i e2
      simp only at e2
      subst e2
      cases ro5
      obtain ⟨q2, h6, hf⟩ := bind_some hf
      refine ⟨true, rfl, ?_⟩
      rw [if_pos rfl]
      refine ⟨ι5, ρ, t4, q2.1, q2.2, ((((rs.mono l1).mono l2).mono l3).mono l4).mono l5, rm5, h6, fun w7 ι7 H7 l7 rm7 ro7 bd7 => ?_⟩
      exact hr2 ι7 H7 H q2.2 q.1 q2.1 z w' w7 m' _ rm7 bd7 (((ro4.mono l5).mono l7).from L3 rm3) (ro7.from (L3.tr rm3 (l4.tr rm4 l5)) rm5) hf fun w8 ι8 H8 l8 rm8 ro8 =>
        k w8 ι8 H8 (L3.tr rm3 (l4.tr rm4 (l5.tr rm5 (l7.tr rm7 l8)))) rm8 (ro8.from (L3.tr rm3 (l4.tr rm4 (l5.tr rm5 l7))) rm7)
    · rename_i e2
      simp only at e2
      subst e2
      cases ro5
      cases hf
      refine ⟨false, rfl, ?_⟩
      rw [if_neg Bool.false_ne_true]
      exact k _ ι5 H5 (L3.tr rm3 (l4.tr rm4 l5)) rm5 (RV.bl false)
    · cases hf
  · rename_i e1
    simp only at e1
    subst e1
    cases ro3
    cases hf
    refine ⟨false, rfl, ?_⟩
    rw [if_neg Bool.false_ne_true]
    exact k _ ι3 H3 (l1.tr rm1 (l2.tr rm2 l3)) rm3 (RV.bl false)
  · cases hf
theorem ch3_ {op op' op2 : CmpOp} {r r' r2 : R2} {f g h : F2} (ho : OpR X (compareOp op) r) (ho' : OpR X (compareOp op') r') (ho2 : OpR X (compareOp op2) r2) (hr : R2S X.K r f) (hr' : R2S X.K r' g) (hr2 : R2S X.K r2 h) (ha : SE X a fa) (hb : SE X b fb) (hc : SE X c fc) (hd : SE X d fd)
    (hm : lastMarks [op, op', op2] [b, c, d] = false := by with_unfolding_all rfl) : SE X (.Compare a [op, op', op2] [b, c, d] pos) (eChain3 f g h fa fb fc fd) := se_chain3 (pe_chain3 ho ho' ho2 ha hb hc hd hm) hr hr' hr2
end
end Q
namespace Q
open PySem L2
/-! ### reckoning with the plain functions -/
theorem okM_self (m : Mem) : okM m m := fun i b _ h => .inl h
theorem okM_app (m e : Mem) : okM m (m ++ e) := fun i b hi h => .inl (by rw [List.getElem?_append_left hi] at h; exact h)
theorem shut_v {m e : Mem} {d : D} (h : d.lo m.length) : shut m (.v d) (m ++ e) = (.v d, m) := by
  unfold shut
  rw [if_pos (okM_app m e)]
  simp [h]
theorem shut_s {m : Mem} {d : D} (h : d.lo m.length) : shut m (.v d) m = (.v d, m) := by
  have := shut_v (m := m) (e := []) h
  rw [List.append_nil] at this
  exact this
theorem shut_o {m e : Mem} {b : Ob} (h : b.lo m.length) : shut m (.o b) (m ++ e) = (.o b, m) := by
  unfold shut
  rw [if_pos (okM_app m e)]
  simp [h]
theorem shut_os {m : Mem} {b : Ob} (h : b.lo m.length) : shut m (.o b) m = (.o b, m) := by
  have := shut_o (m := m) (e := []) h
  rw [List.append_nil] at this
  exact this
@[simp] theorem lo_non (n : Nat) : D.lo n .non = True := by rw [D.lo] <;> simp
@[simp] theorem lo_bl (n : Nat) (b : Bool) : D.lo n (.bl b) = True := by rw [D.lo] <;> simp
@[simp] theorem lo_int (n : Nat) (b : Int) : D.lo n (.int b) = True := by rw [D.lo] <;> simp
@[simp] theorem lo_str (n : Nat) (b : Str) : D.lo n (.str b) = True := by rw [D.lo] <;> simp
@[simp] theorem lo_tup (n : Nat) (b : List D) : D.lo n (.tup b) = loL n b := by rw [D.lo]
@[simp] theorem lo_par (n : Nat) (b : List D) : D.lo n (.par b) = loL n b := by rw [D.lo]
@[simp] theorem lo_fl (n : Nat) (b : List D) : D.lo n (.fl b) = loL n b := by rw [D.lo]
@[simp] theorem lo_ref (n k : Nat) : D.lo n (.ref k) = (k < n) := by rw [D.lo]
@[simp] theorem loL_nil (n : Nat) : loL n [] = True := by rw [loL]
@[simp] theorem loL_cons (n : Nat) (d : D) (ds : List D) : loL n (d :: ds) = (d.lo n ∧ loL n ds) := by rw [loL]
theorem loL_iff (n : Nat) : ∀ ds : List D, loL n ds ↔ ∀ d ∈ ds, d.lo n
  | [] => by simp
  | d :: ds => by simp [loL_iff n ds]
/-! typed data -/
abbrev nats (w : List Nat) : List D := w.map fun (r : Nat) => D.int (r : Int)
def tN (w : List Nat) : D := .tup (nats w)
def tM (m : List (List Nat)) : D := .tup (m.map tN)
theorem loL_nats (n : Nat) (w : List Nat) : loL n (nats w) := by rw [loL_iff]; intro d hd; simp at hd; obtain ⟨a, _, rfl⟩ := hd; simp
@[simp] theorem lo_tN (n : Nat) (w : List Nat) : D.lo n (tN w) = True := by unfold tN; simp [loL_nats]
@[simp] theorem lo_tM (n : Nat) (w : List (List Nat)) : D.lo n (tM w) = True := by unfold tM; simp [loL_iff]
theorem atI_nats (w : List Nat) (i : Nat) (h : i < w.length) : atI (nats w) (i : Int) = some (.int (w[i] : Nat)) := by
  unfold atI ixN
  simp [h]
theorem atI_get {α : Type} (w : List α) (i : Nat) (h : i < w.length) : atI w (i : Int) = some w[i] := by
  unfold atI ixN
  simp [h]
/-- the machine: rooms, letters -/
structure Mach (m : List (List Nat)) (l : Nat) : Prop where
  len : ∀ row ∈ m, row.length = l
  lt : ∀ row ∈ m, ∀ r ∈ row, r < m.length
def stp (m : List (List Nat)) (r a : Nat) : Nat := (m.getD r []).getD a 0
def ledN (m : List (List Nat)) (r : Nat) (w : List Nat) : Nat := w.foldl (stp m) r
theorem Mach.row {m : List (List Nat)} {l : Nat} (h : Mach m l) {r : Nat} (hr : r < m.length) : m[r].length = l := h.len _ (List.getElem_mem hr)
theorem stp_eq {m : List (List Nat)} {l : Nat} (h : Mach m l) {r a : Nat} (hr : r < m.length) (ha : a < l) : stp m r a = (m[r])[a]'(by rw [h.row hr]; exact ha) := by
  unfold stp
  have h2 : a < m[r].length := by rw [h.row hr]; exact ha
  simp [List.getD, List.getElem?_eq_getElem hr, List.getElem?_eq_getElem h2]
theorem stp_lt {m : List (List Nat)} {l : Nat} (h : Mach m l) {r a : Nat} (hr : r < m.length) (ha : a < l) : stp m r a < m.length := by
  rw [stp_eq h hr ha]
  exact h.lt _ (List.getElem_mem hr) _ (List.getElem_mem _)
theorem ledN_lt {m : List (List Nat)} {l : Nat} (h : Mach m l) : ∀ {w : List Nat} {r : Nat}, r < m.length → (∀ a ∈ w, a < l) → ledN m r w < m.length
  | [], r, hr, _ => hr
  | a :: w, r, hr, hw => ledN_lt h (w := w) (stp_lt h hr (hw a (by simp))) fun b hb => hw b (by simp [hb])
@[simp] theorem ledN_nil (m : List (List Nat)) (r : Nat) : ledN m r [] = r := rfl
@[simp] theorem ledN_one (m : List (List Nat)) (r a : Nat) : ledN m r [a] = stp m r a := rfl
theorem ledN_app (m : List (List Nat)) (r : Nat) (u v : List Nat) : ledN m r (u ++ v) = ledN m (ledN m r u) v := by unfold ledN; rw [List.foldl_append]
/-- machine[room][letter] -/
theorem ix_row {m : List (List Nat)} {r : Nat} (hr : r < m.length) (M : Mem) : ixF (.v (tM m)) (.v (.int r)) M = some (.v (tN m[r]), M) := by
  unfold ixF tM
  simp only [seqOf, Option.bind_some]
  rw [atI_get _ _ (by simpa using hr)]
  simp
theorem ix_nat {w : List Nat} {r : Nat} (hr : r < w.length) (M : Mem) : ixF (.v (tN w)) (.v (.int r)) M = some (.v (.int (w[r] : Nat)), M) := by
  unfold ixF tN
  simp only [seqOf, Option.bind_some]
  rw [atI_nats _ _ hr]
  simp
theorem ix_stp {m : List (List Nat)} {l : Nat} (h : Mach m l) {r a : Nat} (hr : r < m.length) (ha : a < l) (M : Mem) : ixF (.v (tN m[r])) (.v (.int a)) M = some (.v (.int (stp m r a : Nat)), M) := by
  rw [ix_nat (by rw [h.row hr]; exact ha), stp_eq h hr ha]
theorem forL_nil {g : G} {body : S} {ρ : Env} {m : Mem} : forL g body [] [] ρ m = some (.nx ρ m) := by
  unfold forL
  rw [if_pos]
  intro p hp; simp at hp
theorem forL_cons {g : G} {body : S} {x : D} {xs : List D} {ρ : Env} {m : Mem} : forL g body [] (x :: xs) ρ m = (g x ρ m).bind fun y => (body y.1 y.2).bind fun r => match r with
      | .nx ρ' m' => forL g body [] xs ρ' m'
      | .ct ρ' m' => forL g body [] xs ρ' m'
      | .bk ρ' m' => some (.nx ρ' m')
      | .rt r m' => some (.rt r m') := by
  have hc : chk [] m := fun p hp => by simp at hp
  (rw [forL, if_pos hc]) <;> rfl
theorem cmpL_nil {t : Tg} {c : B} {f : E} {ρ : Env} {m : Mem} : cmpL t c f [] ρ [] m = some ([], m) := by
  unfold cmpL
  rw [if_pos]
  intro p hp; simp at hp
theorem cmpL_cons {t : Tg} {c : B} {f : E} {ρ : Env} {m : Mem} {x : D} {xs : List D} : cmpL t c f [] ρ (x :: xs) m = (t.put x ρ).bind fun ρ' => (c ρ' m).bind fun b => match b.1 with
      | true => (f ρ' b.2).bind fun y => (cmpL t c f [] ρ xs (val y.1 y.2).2).bind fun r => some ((val y.1 y.2).1 :: r.1, r.2)
      | false => cmpL t c f [] ρ xs b.2 := by
  have hc : chk [] m := fun p hp => by simp at hp
  (rw [cmpL, if_pos hc]) <;> rfl
end Q
namespace Q
open PySem L2
/-! ### draws: a state that lies at some places of the memory -/
def Fr (ab : List Nat) (M M' : Mem) : Prop := M'.length = M.length ∧ ∀ i : Nat, i ∉ ab → M'[i]? = M[i]?
theorem Fr.refl (ab : List Nat) (M : Mem) : Fr ab M M := ⟨rfl, fun _ _ => rfl⟩
theorem Fr.trans {ab : List Nat} {M M1 M2 : Mem} (h : Fr ab M M1) (k : Fr ab M1 M2) : Fr ab M M2 := ⟨k.1.trans h.1, fun i hi => (k.2 i hi).trans (h.2 i hi)⟩
/-- S: what holds of the state; st: its data; nx: the def that draws -/
structure Gen (st : D) (ab : List Nat) (S : Mem → Prop) (nx : Fn) : Prop where
  next : ∀ (M : Mem) (n : Nat), S M → 0 < n → n ≤ 100000 → ∃ (r : Nat) (M' : Mem), nx [st, .int (n : Int)] M = some (.v (.int (r : Int)), M') ∧ r < n ∧ S M' ∧ Fr ab M M'
  keep : ∀ M M', S M → (∀ i ∈ ab, M'[i]? = M[i]?) → S M'
  lo : ∀ M, S M → ∀ i ∈ ab, ∀ o, M[i]? = some o → o.lo M.length
  ins : ∀ M, S M → ∀ i ∈ ab, i < M.length
  sto : ∀ M, S M → st.lo M.length
section
variable {st : D} {ab : List Nat} {S : Mem → Prop} {nx : Fn}
theorem Gen.app (g : Gen st ab S nx) {M : Mem} (h : S M) (e : Mem) : S (M ++ e) := g.keep M _ h (fun i hi => by rw [List.getElem?_append_left (g.ins M h i hi)])
theorem ob_lo_mono {n k : Nat} (hk : n ≤ k) : ∀ {b : Ob}, b.lo n → b.lo k := by
  have hd : ∀ d : D, d.lo n → d.lo k := by
    intro d
    refine D.rec (motive_1 := fun d => d.lo n → d.lo k) (motive_2 := fun ds => loL n ds → loL k ds) (by simp) (by simp) (by simp) (by simp) (fun xs ih => by simpa using ih) (fun xs ih => by simpa using ih) (fun xs ih => by simpa using ih) (fun i => by simp; omega) (fun k xs ih => by rw [D.lo, D.lo]; exact ih) (by simp) (fun d ds h1 h2 => by simp; exact fun a b => ⟨h1 a, h2 b⟩) d
  intro b h
  cases b with
  | lst xs =>
    have h' : loL n xs := h
    show loL k xs
    rw [loL_iff] at h' ⊢
    exact fun d hm => hd d (h' d hm)
  | dct kvs =>
    have h' : loK n kvs := h
    show loK k kvs
    induction kvs with
    | nil => simp [loK]
    | cons p r ih => rw [loK] at h' ⊢; exact ⟨hd _ h'.1, hd _ h'.2.1, ih h'.2.2 h'.2.2⟩
  | dcr kvs =>
    have h' : loK n kvs := h
    show loK k kvs
    induction kvs with
    | nil => simp [loK]
    | cons p r ih => rw [loK] at h' ⊢; exact ⟨hd _ h'.1, hd _ h'.2.1, ih h'.2.2 h'.2.2⟩
  | tab q => trivial
theorem Gen.okM (g : Gen st ab S nx) {M M' : Mem} (f : Fr ab M M') (s : S M') (e : Mem) : Q.okM M (M' ++ e) := fun i b hi h => by
  rw [List.getElem?_append_left (by rw [f.1]; exact hi)] at h
  by_cases hm : i ∈ ab
  · right
    have := g.lo M' s i hm b h
    rw [f.1] at this
    exact this
  · left; rw [← f.2 i hm]; exact h
/-- a def's end, behind draws -/
theorem Gen.shut (g : Gen st ab S nx) {M M' e : Mem} {d : D} (f : Fr ab M M') (s : S M') (hd : d.lo M.length) : shut M (.v d) (M' ++ e) = (.v d, M') := by
  unfold Q.shut
  rw [if_pos (g.okM f s e)]
  simp only [if_pos hd]
  rw [← f.1]; simp
theorem Gen.shutS (g : Gen st ab S nx) {M M' : Mem} {d : D} (f : Fr ab M M') (s : S M') (hd : d.lo M.length) : Q.shut M (.v d) M' = (.v d, M') := by
  have := g.shut (e := []) f s hd
  rw [List.append_nil] at this
  exact this
/-- a def's end that hands a new list back -/
theorem Gen.shutO (g : Gen st ab S nx) {M M' e : Mem} {b : Ob} (f : Fr ab M M') (s : S M') (hd : b.lo M.length) : Q.shut M (.o b) (M' ++ e) = (.o b, M') := by
  unfold Q.shut
  rw [if_pos (g.okM f s e)]
  simp only [if_pos hd]
  rw [← f.1]; simp
theorem Gen.shutL (g : Gen st ab S nx) {M M' e : Mem} {b : Ob} {k : Nat} (f : Fr ab M M') (s : S M') (hk : M.length ≤ k) (he : (M' ++ e)[k]? = some b) (hd : b.lo M.length) : Q.shut M (.v (.ref k)) (M' ++ e) = (.o b, M') := by
  unfold Q.shut
  rw [if_pos (g.okM f s e)]
  have : ¬ D.lo M.length (.ref k) := by simp; exact hk
  simp only [if_neg this, he, if_pos hd]
  simp [← f.1]
end
/-- what a def holds of its own behind the memory stays there -/
theorem Gen.tail {st : D} {ab : List Nat} {S : Mem → Prop} {nx : Fn} (g : Gen st ab S nx) {M M' e : Mem} (s : S M) (s' : S M') (f : Fr ab (M ++ e) M') : ∃ M1, M' = M1 ++ e ∧ S M1 ∧ Fr ab M M1 := by
  have hl : M'.length = M.length + e.length := by rw [f.1]; simp
  refine ⟨M'.take M.length, ?_, g.keep M' _ s' fun i hi => ?_, ?_, fun i hi => ?_⟩
  · apply List.ext_getElem?
    intro j
    by_cases hj : j < M.length
    · rw [List.getElem?_append_left (by simp; omega), List.getElem?_take_of_lt hj]
    · rw [List.getElem?_append_right (by simp; omega), f.2 j (fun hm => hj (g.ins M s j hm)), List.getElem?_append_right (by omega)]
      simp; congr 1; omega
  · rw [List.getElem?_take_of_lt (g.ins M s i hi)]
  · simp; omega
  · by_cases hj : i < M.length
    · rw [List.getElem?_take_of_lt hj, f.2 i hi, List.getElem?_append_left hj]
    · rw [List.getElem?_eq_none (by simp; omega), List.getElem?_eq_none (by omega)]
theorem get_end {M : Mem} {o : Ob} {k : Nat} (h : k = M.length) : (M ++ [o])[k]? = some o := by subst h; simp
theorem set_end {M : Mem} {o o' : Ob} {k : Nat} (h : k = M.length) : (M ++ [o]).set k o' = M ++ [o'] := by subst h; simp
/-! ### loops and comprehensions with a word of their own -/
theorem forL_inv {g : G} {body : S} {xs : List D} (J : Nat → Env → Mem → Prop) (step : ∀ (i : Nat) (x : D) (ρ : Env) (M : Mem), xs[i]? = some x → J i ρ M → ∃ ρ1 M1 ρ2 M2, g x ρ M = some (ρ1, M1) ∧ body ρ1 M1 = some (.nx ρ2 M2) ∧ J (i + 1) ρ2 M2) :
    ∀ {ρ : Env} {M : Mem}, J 0 ρ M → ∃ ρ' M', forL g body [] xs ρ M = some (.nx ρ' M') ∧ J xs.length ρ' M' := by
  have h : ∀ (n : Nat) (k : Nat) (ρ : Env) (M : Mem), n + k = xs.length → J k ρ M → ∃ ρ' M', forL g body [] (xs.drop k) ρ M = some (.nx ρ' M') ∧ J xs.length ρ' M' := by
    intro n
    induction n with
    | zero => intro k ρ M e j; rw [List.drop_eq_nil_of_le (by omega), forL_nil]; exact ⟨ρ, M, rfl, by rw [show xs.length = k by omega]; exact j⟩
    | succ n ih =>
      intro k ρ M e j
      have hk : k < xs.length := by omega
      rw [List.drop_eq_getElem_cons hk, forL_cons]
      obtain ⟨ρ1, M1, ρ2, M2, e1, e2, j2⟩ := step k _ ρ M (List.getElem?_eq_getElem hk) j
      rw [e1]
      simp only [Option.bind_some, e2]
      exact ih (k + 1) ρ2 M2 (by omega) j2
  intro ρ M j
  have := h xs.length 0 ρ M (by omega) j
  simpa using this
theorem forR_inv {g : G} {body : S} {n : Nat} (J : Nat → Env → Mem → Prop) {ρ : Env} {M : Mem} (h0 : J 0 ρ M) (step : ∀ (i : Nat) (ρ : Env) (M : Mem), i < n → J i ρ M → ∃ ρ1 M1 ρ2 M2, g (.int (i : Int)) ρ M = some (ρ1, M1) ∧ body ρ1 M1 = some (.nx ρ2 M2) ∧ J (i + 1) ρ2 M2) :
    ∃ ρ' M', forL g body [] (upto 0 n) ρ M = some (.nx ρ' M') ∧ J n ρ' M' := by
  have := forL_inv (g := g) (body := body) (xs := upto 0 n) J (fun i x ρ M hx j => by
    obtain ⟨hi, rfl⟩ := upto_get hx
    have := step i ρ M hi j
    simpa using this) h0
  rw [upto_len] at this
  exact this
theorem cmpL_inv {t : Tg} {c : B} {f : E} {ρ : Env} {xs : List D} (J : Mem → Prop) (Rl : D → D → Prop) (step : ∀ (x : D) (M : Mem), x ∈ xs → J M → ∃ ρ' M1 d M2, t.put x ρ = some ρ' ∧ c ρ' M = some (true, M1) ∧ f ρ' M1 = some (.v d, M2) ∧ J M2 ∧ Rl x d) :
    ∀ {M : Mem}, J M → ∃ ds M', cmpL t c f [] ρ xs M = some (ds, M') ∧ J M' ∧ Paired Rl xs ds := by
  induction xs with
  | nil => intro M j; exact ⟨[], M, cmpL_nil, j, .nil⟩
  | cons x xs ih =>
    intro M j
    obtain ⟨ρ', M1, d, M2, e1, e2, e3, j2, r⟩ := step x M (by simp) j
    obtain ⟨ds, M3, e4, j3, rs⟩ := ih (fun y M hy => step y M (by simp [hy])) j2
    refine ⟨d :: ds, M3, ?_, j3, .cons r rs⟩
    rw [cmpL_cons, e1]
    simp [e2, e3, e4]
/-- elements that change nothing -/
theorem cmpL_map {t : Tg} {f : E} {ρ : Env} {xs : List D} {M : Mem} (h : D → D) (step : ∀ x ∈ xs, ∃ ρ', t.put x ρ = some ρ' ∧ f ρ' M = some (.v (h x), M)) : cmpL t bYes f [] ρ xs M = some (xs.map h, M) := by
  induction xs with
  | nil => exact cmpL_nil
  | cons x xs ih =>
    obtain ⟨ρ', e1, e2⟩ := step x (by simp)
    rw [cmpL_cons, e1]
    simp [bYes, e2, ih fun y hy => step y (by simp [hy])]
end Q
namespace Q
open PySem L2
/-! ### slices, lengths, items of typed data -/
theorem sIx_of {n d : Nat} {k : Int} (h : 0 ≤ k) : HT.sIx n d (some k) = min k.toNat n := by
  obtain ⟨j, rfl⟩ := Int.eq_ofNat_of_zero_le h
  rw [HT.sIx_nat]; simp
theorem cut_to {xs : List D} {k : Int} (h : 0 ≤ k) : cutD xs none (some k) = xs.take k.toNat := by
  unfold cutD
  rw [sIx_of h, HT.sIx_none, List.drop_zero, Nat.sub_zero]
  by_cases q : k.toNat ≤ xs.length
  · rw [Nat.min_eq_left q]
  · rw [Nat.min_eq_right (by omega), List.take_length, List.take_of_length_le (by omega)]
theorem cut_from {xs : List D} {k : Int} (h : 0 ≤ k) : cutD xs (some k) none = xs.drop k.toNat := by
  unfold cutD
  rw [sIx_of h, HT.sIx_none]
  by_cases q : k.toNat ≤ xs.length
  · rw [Nat.min_eq_left q, List.take_of_length_le (by simp)]
  · rw [Nat.min_eq_right (by omega), List.drop_length, List.drop_of_length_le (by omega)]; simp
theorem cut_mid {xs : List D} {i j : Int} (h : 0 ≤ i) (h2 : 0 ≤ j) : cutD xs (some i) (some j) = (xs.drop i.toNat).take (j.toNat - i.toNat) := by
  unfold cutD
  rw [sIx_of h, sIx_of h2]
  by_cases q : i.toNat ≤ xs.length
  · rw [Nat.min_eq_left q]
    by_cases q2 : j.toNat ≤ xs.length
    · rw [Nat.min_eq_left q2]
    · rw [Nat.min_eq_right (by omega), List.take_of_length_le (by simp), List.take_of_length_le (by simp; omega)]
  · rw [show min i.toNat xs.length = xs.length by omega, List.drop_length, List.drop_of_length_le (by omega)]; simp
theorem cut_back {xs : List D} {k : Nat} (h : 0 < k) : cutD xs none (some (-(k : Int))) = xs.take (xs.length - k) := by
  unfold cutD
  rw [HT.sIx_none, List.drop_zero, Nat.sub_zero]
  show xs.take (if -(k : Int) < 0 then (-(k : Int) + (xs.length : Int)).toNat else _) = _
  rw [if_pos (by omega)]
  congr 1
  omega
theorem len_fl (xs : List D) (M : Mem) : lenF (.v (.fl xs)) M = some (.v (.int xs.length), M) := by simp [lenF, seqOf]
theorem len_tup (xs : List D) (M : Mem) : lenF (.v (.tup xs)) M = some (.v (.int xs.length), M) := by simp [lenF, seqOf]
theorem len_ol (xs : List D) (M : Mem) : lenF (.o (.lst xs)) M = some (.v (.int xs.length), M) := by simp [lenF, seqOf]
theorem len_tN (w : List Nat) (M : Mem) : lenF (.v (tN w)) M = some (.v (.int w.length), M) := by simp [tN, len_tup]
theorem len_tM (w : List (List Nat)) (M : Mem) : lenF (.v (tM w)) M = some (.v (.int w.length), M) := by simp [tM, len_tup]
theorem len_ref {n : Nat} {xs : List D} {M : Mem} (h : M[n]? = some (.lst xs)) : lenF (.v (.ref n)) M = some (.v (.int xs.length), M) := by simp [lenF, seqOf, h]
theorem tup_ol (xs : List D) (M : Mem) : tupF (.o (.lst xs)) M = some (.v (.tup xs), M) := by simp [tupF, seqOf]
theorem tup_ref {n : Nat} {xs : List D} {M : Mem} (h : M[n]? = some (.lst xs)) : tupF (.v (.ref n)) M = some (.v (.tup xs), M) := by simp [tupF, seqOf, h]
theorem list_tN (w : List Nat) (M : Mem) : listF (.v (tN w)) M = some (.o (.lst (nats w)), M) := by simp [listF, tN, seqOf]
theorem sl_fl (xs : List D) (lo hi : Option Int) (M : Mem) : slF (.v (.fl xs)) lo hi M = some (.o (.lst (cutD xs lo hi)), M) := by simp [slF, seqOf]
theorem sl_tup (xs : List D) (lo hi : Option Int) (M : Mem) : slF (.v (.tup xs)) lo hi M = some (.v (.tup (cutD xs lo hi)), M) := by simp [slF]
theorem sl_ol (xs : List D) (lo hi : Option Int) (M : Mem) : slF (.o (.lst xs)) lo hi M = some (.o (.lst (cutD xs lo hi)), M) := by simp [slF, seqOf]
theorem src_ol (xs : List D) (M : Mem) : srcOf (.o (.lst xs)) M = some ⟨xs, []⟩ := by simp [srcOf]
theorem src_tup (xs : List D) (M : Mem) : srcOf (.v (.tup xs)) M = some ⟨xs, []⟩ := by simp [srcOf]
theorem src_tN (w : List Nat) (M : Mem) : srcOf (.v (tN w)) M = some ⟨nats w, []⟩ := by simp [srcOf, tN]
theorem src_tM (w : List (List Nat)) (M : Mem) : srcOf (.v (tM w)) M = some ⟨w.map tN, []⟩ := by simp [srcOf, tM]
@[simp] theorem eq_int (i j : Int) (M : Mem) : eqF (.v (.int i)) (.v (.int j)) M = some (.v (.bl (decide (i = j))), M) := by simp [eqF, form, okD, D.eqb]
@[simp] theorem ne_int (i j : Int) (M : Mem) : neF (.v (.int i)) (.v (.int j)) M = some (.v (.bl (!decide (i = j))), M) := by simp [neF, form, okD, D.eqb]
@[simp] theorem isi_int (i : Int) (M : Mem) (t : Ty) : isiF t (.v (.int i)) M = some (.v (.bl (isiB t "int")), M) := by simp [isiF, tyOf]
theorem ix_ol {xs : List D} {i : Nat} {d : D} {M : Mem} (h : xs[i]? = some d) : ixF (.o (.lst xs)) (.v (.int (i : Int))) M = some (.v d, M) := by
  obtain ⟨h1, h2⟩ := List.getElem?_eq_some_iff.mp h
  simp [ixF, seqOf, atI, ixN, h1, h2]
theorem upto_nats (n : Nat) : upto 0 n = nats (List.range n) := by simp [upto]
theorem add_tN (u v : List Nat) (M : Mem) (h : fits (u.length + v.length)) : addF (.v (tN u)) (.v (tN v)) M = some (.v (tN (u ++ v)), M) := by simp [addF, tN, h]
theorem sz {n : Nat} (h : n ≤ 100000) : n ≤ sizeLine := by rw [sizeLine_eq]; omega
theorem tup_nil : D.tup [] = tN [] := rfl
theorem tup_one (a : Nat) : D.tup [.int (a : Int)] = tN [a] := rfl
@[simp] theorem rg_nat {n : Nat} (h : n ≤ 16777216) : rgOk (n : Int) := rgOk_of (by omega) (by omega)
end Q
namespace Q
open PySem L2
/-- elements that change nothing, typed -/
theorem cmpL_mp {α : Type} {t : Tg} {f : E} {ρ : Env} {M : Mem} (emb h : α → D) (xs : List α) (step : ∀ x ∈ xs, ∃ ρ', t.put (emb x) ρ = some ρ' ∧ f ρ' M = some (.v (h x), M)) : cmpL t bYes f [] ρ (xs.map emb) M = some (xs.map h, M) := by
  induction xs with
  | nil => exact cmpL_nil
  | cons x xs ih =>
    obtain ⟨ρ', e1, e2⟩ := step x (by simp)
    rw [List.map_cons, cmpL_cons, e1]
    simp [bYes, e2, ih fun y hy => step y (by simp [hy])]
/-- the same with a test -/
theorem cmpL_fl {α : Type} {t : Tg} {c : B} {f : E} {ρ : Env} {M : Mem} (emb h : α → D) (p : α → Bool) (xs : List α) (step : ∀ x ∈ xs, ∃ ρ', t.put (emb x) ρ = some ρ' ∧ c ρ' M = some (p x, M) ∧ (p x = true → f ρ' M = some (.v (h x), M))) : cmpL t c f [] ρ (xs.map emb) M = some ((xs.filter p).map h, M) := by
  induction xs with
  | nil => exact cmpL_nil
  | cons x xs ih =>
    obtain ⟨ρ', e1, e2, e3⟩ := step x (by simp)
    have ih := ih fun y hy => step y (by simp [hy])
    rw [List.map_cons, cmpL_cons, e1]
    cases hp : p x with
    | true => simp [e2, hp, e3 hp, ih]
    | false => simp [e2, hp, ih]
/-- a loop that changes nothing and goes on -/
theorem forL_skip {α : Type} {g : G} {body : S} {M : Mem} (emb : α → D) (J : Env → Prop) (xs : List α) (step : ∀ x ∈ xs, ∀ ρ, J ρ → ∃ ρ1 ρ2, g (emb x) ρ M = some (ρ1, M) ∧ body ρ1 M = some (.nx ρ2 M) ∧ J ρ2) :
    ∀ {ρ : Env}, J ρ → ∃ ρ', forL g body [] (xs.map emb) ρ M = some (.nx ρ' M) ∧ J ρ' := by
  induction xs with
  | nil => intro ρ j; exact ⟨ρ, forL_nil, j⟩
  | cons x xs ih =>
    intro ρ j
    obtain ⟨ρ1, ρ2, e1, e2, j2⟩ := step x (by simp) ρ j
    obtain ⟨ρ', e3, j3⟩ := ih (fun y hy => step y (by simp [hy])) j2
    refine ⟨ρ', ?_, j3⟩
    rw [List.map_cons, forL_cons, e1]
    simp [e2, e3]
theorem Gen.draws {st : D} {ab : List Nat} {S : Mem → Prop} {nx : Fn} (g : Gen st ab S nx) {t : Tg} {f : E} {ρ : Env} {n : Nat} (hn : 0 < n) (hn2 : n ≤ 100000) {xs : List D} (hE : ∀ x ∈ xs, ∃ ρ', t.put x ρ = some ρ' ∧ ∀ M, f ρ' M = nx [st, .int (n : Int)] M) :
    ∀ {M : Mem}, S M → ∃ (w : List Nat) (M' : Mem), cmpL t bYes f [] ρ xs M = some (nats w, M') ∧ w.length = xs.length ∧ (∀ r ∈ w, r < n) ∧ S M' ∧ Fr ab M M' := by
  induction xs with
  | nil => intro M h; exact ⟨[], M, by simp [cmpL_nil], rfl, by simp, h, Fr.refl _ _⟩
  | cons x xs ih =>
    intro M h
    obtain ⟨r, M1, e, q, s1, f1⟩ := g.next M n h hn hn2
    obtain ⟨w, M2, e2, hw, hq, s2, f2⟩ := ih (fun y hy => hE y (by simp [hy])) s1
    obtain ⟨ρ', e3, e4⟩ := hE x (by simp)
    refine ⟨r :: w, M2, ?_, by simp [hw], fun x hx => ?_, s2, f1.trans f2⟩
    · rw [cmpL_cons, e3]
      simp [e4, e, e2]
    · rcases List.mem_cons.mp hx with rfl | hx
      · exact q
      · exact hq x hx
/-- a law's end -/
theorem law_shut (d : D) (M : Mem) (h : d.lo 0) : shut [] (.v d) M = (.v d, (shut [] (.v d) M).2) := by
  unfold shut
  rw [if_pos (show okM [] M from fun i b hi => by simp at hi)]
  simp [h]
@[simp] theorem tup_ref' (xs : List D) (M : Mem) : tupF (.v (.tup xs)) M = some (.v (.tup xs), M) := by simp [tupF, seqOf]
theorem tM_eq (m : List (List Nat)) : D.tup (m.map fun r => D.tup (nats r)) = tM m := rfl
theorem tN_eq (m : List Nat) : D.tup (nats m) = tN m := rfl
theorem map_range_get {α β : Type} (xs : List α) (d : α) (f : α → β) : (List.range xs.length).map (fun i => f (xs.getD i d)) = xs.map f := by
  apply List.ext_getElem
  · simp
  · intro i h1 h2
    simp at h1
    simp [List.getD, h1]
end Q
/-! x != [] of a list of anything -/
namespace Q
open PySem PySem.Spec L2
def rNeE (K : PySem.W.Frag) : R2 := fun x y H Q => ∃ a b xs, x = .ref a ∧ y = .ref b ∧ H a = some (.lst xs) ∧ H b = some (.lst []) ∧ Q (.bl (!xs.isEmpty)) H
theorem op_neE {X : Cx} (hu : X.A.units + 64 < cLine) : OpR X (compareOp .NotEq) (rNeE X.K) := by
  intro pins s σ H x y v u Q I rx ry h
  obtain ⟨a, b, xs, rfl, rfl, ha, hb, q⟩ := h
  obtain rfl : v = Value.ref a := rx
  obtain rfl : u = Value.ref b := ry
  obtain ⟨its, rv, p, hz⟩ := I.list (a := a) (xs := xs) (.inl (.inl ha))
  obtain ⟨its2, rv2, p2, hz2⟩ := I.list (a := b) (xs := []) (.inl (.inl hb))
  have hl := rv.length
  cases rv2
  have hu2 : X.A.units < cLine := by omega
  cases xs with
  | nil =>
    cases rv
    have := SeqAt.RcNeAt.lists (e := fun _ => true) p.isList p2.isList rfl hu2 (fun j h1 _ => absurd h1 (by simp))
    exact this _ _ _ _ ⟨.bl false, H, I, rfl, q⟩
  | cons x xs =>
    have := SeqAt.RcNeAt.lists_lengths (A := X.A) p.isList p2.isList (by simp; intro z; rw [z] at hl; simp at hl) hu2
    exact this _ _ _ _ ⟨.bl true, H, I, rfl, q⟩
def neEF (x : Out) (y : Out) (m : Mem) : Option (Out × Mem) := match lstOf y m with
  | some [] => (lstOf x m).bind fun xs => some (.v (.bl (!xs.isEmpty)), m)
  | _ => none
theorem neEU {K : PySem.W.Frag} : R2S K (rNeE K) neEF := by
  intro ι H H0 m x y z vx vy m' Q rm bd rx ry hf k
  unfold neEF at hf
  split at hf
  · rename_i hy
    obtain ⟨xs, hx, hf⟩ := bind_some hf
    cases hf
    obtain ⟨a, vs, rfl, ha, r1⟩ := lst_at rm rx hx
    obtain ⟨b, us, rfl, hb, r2⟩ := lst_at rm ry hy
    cases r2
    have e : xs.isEmpty = vs.isEmpty := by cases r1 <;> rfl
    exact ⟨a, b, vs, rfl, rfl, ha, hb, by rw [← e]; exact k _ ι H (Le.refl _ _) rm (RV.bl _)⟩
  · cases hf
section
variable {X : Cx} {a b : Expr} {fa fb : E} {pos : Pos} {k : Nat}
theorem neE_ (hr : Room k X.A) (ha : SE X a fa) (hb : SE X b fb) : SE X (.Compare a [.NotEq] [b] pos) (eBin neEF fa fb) := se_cmp (op_neE hr.units) neEU ha hb (nomark _)
theorem t_neE (hr : Room k X.A) (ha : SE X a fa) (hb : SE X b fb) : ST X (.Compare a [.NotEq] [b] pos) (bOf (eBin neEF fa fb)) := st_cmp (op_neE hr.units) neEU ha hb (nomark _)
end
end Q
namespace Q
open PySem L2
/-! ### a machine for reckoning: what is to hold behind a thing, with what follows kept as a closed word -/
abbrev PO2 := Out → Mem → Prop
def WO (o : Option (Out × Mem)) (Q : Out → Mem → Prop) : Prop := ∃ r M, o = some (r, M) ∧ Q r M
def WE (e : E) (ρ : Env) (M : Mem) (Q : Out → Mem → Prop) : Prop := ∃ r M', e ρ M = some (r, M') ∧ Q r M'
def WB (b : B) (ρ : Env) (M : Mem) (Q : Bool → Mem → Prop) : Prop := ∃ r M', b ρ M = some (r, M') ∧ Q r M'
def WA (a : A) (ρ : Env) (M : Mem) (Q : List D → Mem → Prop) : Prop := ∃ r M', a ρ M = some (r, M') ∧ Q r M'
def WN (o : O) (ρ : Env) (M : Mem) (Q : Option Int → Mem → Prop) : Prop := ∃ r M', o ρ M = some (r, M') ∧ Q r M'
def WS (s : S) (ρ : Env) (M : Mem) (Q : R → Prop) : Prop := ∃ r, s ρ M = some r ∧ Q r
def WI (i : I) (ρ : Env) (M : Mem) (Q : Src → Mem → Prop) : Prop := ∃ r M', i ρ M = some (r, M') ∧ Q r M'
def WG (g : G) (d : D) (ρ : Env) (M : Mem) (Q : Env → Mem → Prop) : Prop := ∃ r M', g d ρ M = some (r, M') ∧ Q r M'
def WC (t : Tg) (c : B) (f : E) (lv : List (Nat × Ob)) (ρ : Env) (xs : List D) (M : Mem) (Q : List D → Mem → Prop) : Prop := ∃ r M', cmpL t c f lv ρ xs M = some (r, M') ∧ Q r M'
def WL (g : G) (body : S) (lv : List (Nat × Ob)) (xs : List D) (ρ : Env) (M : Mem) (Q : R → Prop) : Prop := ∃ r, forL g body lv xs ρ M = some r ∧ Q r
def WH (c : B) (body : S) (n : Nat) (ρ : Env) (M : Mem) (Q : R → Prop) : Prop := ∃ r, whL c body n ρ M = some r ∧ Q r
/-- a wish about a source -/
def WSrc (o : Option Src) (M : Mem) (Q : Src → Mem → Prop) : Prop := ∃ s, o = some s ∧ Q s M
def WM (o : Option Mem) (Q : Mem → Prop) : Prop := ∃ s, o = some s ∧ Q s
def WEnv (o : Option Env) (Q : Env → Prop) : Prop := ∃ s, o = some s ∧ Q s
def WD (o : Option (Option D)) (Q : D → Prop) : Prop := ∃ d, o = some (some d) ∧ Q d
/-- what follows -/
def kV (M : Mem) (Q : PO2) (d : D) : Prop := Q (.v d) M
def kBin1 (f : F2) (b : E) (ρ : Env) (Q : PO2) (x : Out) (M : Mem) : Prop := WE b ρ M fun y M => WO (f x y M) Q
def kBin2 (f : F2) (x : Out) (Q : PO2) (y : Out) (M : Mem) : Prop := WO (f x y M) Q
def kUn (f : F1) (Q : PO2) (x : Out) (M : Mem) : Prop := WO (f x M) Q
def kAnd (b : E) (ρ : Env) (Q : PO2) (x : Out) (M : Mem) : Prop := match x with | .v (.bl true) => WE b ρ M Q | .v (.bl false) => Q (.v (.bl false)) M | _ => False
def kOr (b : E) (ρ : Env) (Q : PO2) (x : Out) (M : Mem) : Prop := match x with | .v (.bl false) => WE b ρ M Q | .v (.bl true) => Q (.v (.bl true)) M | _ => False
def kNot (Q : PO2) (x : Out) (M : Mem) : Prop := match x with | .v (.bl b) => Q (.v (.bl (!b))) M | _ => False
def kIf (a b : E) (ρ : Env) (Q : PO2) (c : Bool) (M : Mem) : Prop := match c with | true => WE a ρ M Q | false => WE b ρ M Q
def kOf (Q : Bool → Mem → Prop) (x : Out) (M : Mem) : Prop := match x with | .v (.bl b) => Q b M | _ => False
def kbAnd (b : B) (ρ : Env) (Q : Bool → Mem → Prop) (c : Bool) (M : Mem) : Prop := match c with | true => WB b ρ M Q | false => Q false M
def kbOr (b : B) (ρ : Env) (Q : Bool → Mem → Prop) (c : Bool) (M : Mem) : Prop := match c with | false => WB b ρ M Q | true => Q true M
def kbNot (Q : Bool → Mem → Prop) (c : Bool) (M : Mem) : Prop := Q (!c) M
def kCons1 (r : A) (ρ : Env) (Q : List D → Mem → Prop) (x : Out) (M : Mem) : Prop := WA r ρ (val x M).2 fun ds M' => Q ((val x M).1 :: ds) M'
def kCons2 (d : D) (Q : List D → Mem → Prop) (ds : List D) (M : Mem) : Prop := Q (d :: ds) M
def kTup (Q : PO2) (ds : List D) (M : Mem) : Prop := fits ds.length ∧ Q (.v (.tup ds)) M
def kLst (Q : PO2) (ds : List D) (M : Mem) : Prop := fits ds.length ∧ Q (.o (.lst ds)) M
def kCall (F : Fn) (Q : PO2) (ds : List D) (M : Mem) : Prop := WO (F ds M) Q
def kCh1 (f g : F2) (b c : E) (ρ : Env) (Q : PO2) (x : Out) (M : Mem) : Prop := WE b ρ M fun y M => WO (f x y M) fun z M => match z with | .v (.bl true) => WE c ρ M fun w M => WO (g y w M) Q | .v (.bl false) => Q (.v (.bl false)) M | _ => False
def kCh2 (f g : F2) (c : E) (ρ : Env) (Q : PO2) (x : Out) (y : Out) (M : Mem) : Prop := WO (f x y M) fun z M => match z with | .v (.bl true) => WE c ρ M fun w M => WO (g y w M) Q | .v (.bl false) => Q (.v (.bl false)) M | _ => False
def kCh3 (g : F2) (c : E) (ρ : Env) (Q : PO2) (y : Out) (z : Out) (M : Mem) : Prop := match z with | .v (.bl true) => WE c ρ M fun w M => WO (g y w M) Q | .v (.bl false) => Q (.v (.bl false)) M | _ => False
def kMt1 (T : String) (f : F2) (b : E) (ρ : Env) (Q : PO2) (x : Out) (M : Mem) : Prop := isTyB T x M = true ∧ WE b ρ M fun y M => WO (f x y M) Q
def kMt0 (T : String) (f : F1) (Q : PO2) (x : Out) (M : Mem) : Prop := isTyB T x M = true ∧ WO (f x M) Q
def kDm1 (f : F2) (b : E) (ρ : Env) (Q : PO2) (x : Out) (M : Mem) : Prop := isDct x M = true ∧ WE b ρ M fun y M => WO (f x y M) Q
def kDm2 (f : F3) (b c : E) (ρ : Env) (Q : PO2) (x : Out) (M : Mem) : Prop := isDct x M = true ∧ WE b ρ M fun y M => WE c ρ M fun z M => WO (f x y z M) Q
def kDm2b (f : F3) (c : E) (ρ : Env) (x : Out) (Q : PO2) (y : Out) (M : Mem) : Prop := WE c ρ M fun z M => WO (f x y z M) Q
def kF3 (f : F3) (x y : Out) (Q : PO2) (z : Out) (M : Mem) : Prop := WO (f x y z M) Q
def kTm1 (f : F2) (b : E) (ρ : Env) (Q : PO2) (x : Out) (M : Mem) : Prop := match x with | .v (.tup xs) => WE b ρ M fun y M => WO (f (.v (.tup xs)) y M) Q | _ => False
def kSl1 (lo hi : O) (ρ : Env) (Q : PO2) (x : Out) (M : Mem) : Prop := WN lo ρ M fun l M => WN hi ρ M fun h M => WO (slF x l h M) Q
def kSl2 (hi : O) (ρ : Env) (Q : PO2) (x : Out) (l : Option Int) (M : Mem) : Prop := WN hi ρ M fun h M => WO (slF x l h M) Q
def kSl3 (Q : PO2) (x : Out) (l h : Option Int) (M : Mem) : Prop := WO (slF x l h M) Q
def kSome (Q : Option Int → Mem → Prop) (x : Out) (M : Mem) : Prop := match x with | .v (.int i) => Q (some i) M | _ => False
def kComp (t : Tg) (c : B) (f : E) (ρ : Env) (Q : PO2) (s : Src) (M : Mem) : Prop := WC t c f s.live ρ s.items M fun ds M => Q (.o (.lst ds)) M
def kOl (Q : PO2) (ds : List D) (M : Mem) : Prop := Q (.o (.lst ds)) M
def kRg1 (mk : List D → Out) (Q : PO2) (x : Out) (M : Mem) : Prop := match x with | .v (.int j) => rgOk j ∧ Q (mk (upto 0 j.toNat)) M | _ => False
def kRg2a (mk : List D → Out) (b : E) (ρ : Env) (Q : PO2) (x : Out) (M : Mem) : Prop := WE b ρ M fun y M => match x, y with | .v (.int i), .v (.int j) => rg2Ok i j ∧ Q (mk (upto i (j - i).toNat)) M | _, _ => False
def kRg2b (mk : List D → Out) (Q : PO2) (x : Out) (y : Out) (M : Mem) : Prop := match x, y with | .v (.int i), .v (.int j) => rg2Ok i j ∧ Q (mk (upto i (j - i).toNat)) M | _, _ => False
def kiE (Q : Src → Mem → Prop) (x : Out) (M : Mem) : Prop := WSrc (srcOf x M) M Q
def kiRg1 (Q : Src → Mem → Prop) (x : Out) (M : Mem) : Prop := match x with | .v (.int j) => rgOk j ∧ Q ⟨upto 0 j.toNat, []⟩ M | _ => False
def kiRg2a (b : E) (ρ : Env) (Q : Src → Mem → Prop) (x : Out) (M : Mem) : Prop := WE b ρ M fun y M => match x, y with | .v (.int i), .v (.int j) => rg2Ok i j ∧ Q ⟨upto i (j - i).toNat, []⟩ M | _, _ => False
def kiRg2b (Q : Src → Mem → Prop) (x : Out) (y : Out) (M : Mem) : Prop := match x, y with | .v (.int i), .v (.int j) => rg2Ok i j ∧ Q ⟨upto i (j - i).toNat, []⟩ M | _, _ => False
def kiZip1 (b : E) (ρ : Env) (Q : Src → Mem → Prop) (x : Out) (M : Mem) : Prop := WE b ρ M fun y M => WSrc (zipOf x y M) M Q
def kiZip2 (Q : Src → Mem → Prop) (x : Out) (y : Out) (M : Mem) : Prop := WSrc (zipOf x y M) M Q
def kiEnum (Q : Src → Mem → Prop) (x : Out) (M : Mem) : Prop := WSrc (enumOf x M) M Q
def kgE (M : Mem) (Q : Env → Mem → Prop) (ρ : Env) : Prop := Q ρ M
def kgIx1 (i : E) (d : D) (ρ : Env) (Q : Env → Mem → Prop) (x : Out) (M : Mem) : Prop := WE i ρ M fun y M => WM (stoF x y d M) fun M => Q ρ M
def kgIx2 (d : D) (ρ : Env) (Q : Env → Mem → Prop) (x : Out) (y : Out) (M : Mem) : Prop := WM (stoF x y d M) fun M => Q ρ M
def kgDx1 (i : E) (d : D) (ρ : Env) (Q : Env → Mem → Prop) (x : Out) (M : Mem) : Prop := WE i ρ M fun y M => WM (dstoF x y d M) fun M => Q ρ M
def kgDx2 (d : D) (ρ : Env) (Q : Env → Mem → Prop) (x : Out) (y : Out) (M : Mem) : Prop := WM (dstoF x y d M) fun M => Q ρ M
def kgQ (ρ : Env) (Q : Env → Mem → Prop) (M : Mem) : Prop := Q ρ M
def kSeq (b : S) (Q : R → Prop) (r : R) : Prop := match r with | .nx ρ M => WS b ρ M Q | r => Q r
def kSet (i : Nat) (ρ : Env) (Q : R → Prop) (x : Out) (M : Mem) : Prop := Q (.nx (ρ.set i (some (val x M).1)) (val x M).2)
def kPut (g : G) (ρ : Env) (Q : R → Prop) (x : Out) (M : Mem) : Prop := WG g (val x M).1 ρ (val x M).2 fun ρ M => Q (.nx ρ M)
def kNx (Q : R → Prop) (ρ : Env) (M : Mem) : Prop := Q (.nx ρ M)
def kPar (is : List Nat) (ρ : Env) (Q : R → Prop) (ds : List D) (M : Mem) : Prop := WEnv (setAll is ds ρ) fun ρ => Q (.nx ρ M)
def kNx1 (Q : R → Prop) (M : Mem) (ρ : Env) : Prop := Q (.nx ρ M)
def kDo (ρ : Env) (Q : R → Prop) (x : Out) (M : Mem) : Prop := Q (.nx ρ M)
def kRet (Q : R → Prop) (x : Out) (M : Mem) : Prop := Q (.rt x M)
def kIfS (a b : S) (ρ : Env) (Q : R → Prop) (c : Bool) (M : Mem) : Prop := match c with | true => WS a ρ M Q | false => WS b ρ M Q
def kAug1 (i : Nat) (f : F2) (e : E) (ρ : Env) (M : Mem) (Q : R → Prop) (d : D) : Prop := WE e ρ M fun x M => WO (f (.v d) x M) fun z M => Q (.nx (ρ.set i (some (val z M).1)) (val z M).2)
def kAug2 (i : Nat) (f : F2) (ρ : Env) (Q : R → Prop) (d : D) (x : Out) (M : Mem) : Prop := WO (f (.v d) x M) fun z M => Q (.nx (ρ.set i (some (val z M).1)) (val z M).2)
def kFor (g : G) (body : S) (ρ : Env) (Q : R → Prop) (s : Src) (M : Mem) : Prop := WL g body s.live s.items ρ M Q
def kFn (M0 : Mem) (Q : PO2) (r : R) : Prop := match r with | .rt x M => Q (shut M0 x M).1 (shut M0 x M).2 | .nx _ M => Q (shut M0 (.v .non) M).1 (shut M0 (.v .non) M).2 | _ => False
/-- a turn of a loop -/
def kTurn (J : Env → Mem → Prop) (Q : R → Prop) (r : R) : Prop := match r with | .nx ρ M => J ρ M | .ct ρ M => J ρ M | .bk ρ M => Q (.nx ρ M) | .rt v M => Q (.rt v M)
def kG (body : S) (Q : R → Prop) (ρ : Env) (M : Mem) : Prop := WS body ρ M Q

section
variable {a b c : E} {ca cb : B} {fr : A} {s1 s2 : S} {it : I} {g : G} {ρ : Env} {M : Mem} {Q : PO2} {QB : Bool → Mem → Prop} {QA : List D → Mem → Prop} {QN : Option Int → Mem → Prop} {QS : R → Prop} {QI : Src → Mem → Prop} {QG : Env → Mem → Prop} {f : F2} {f1 : F1} {f3 : F3} {x y z : Out} {d : D} {ds : List D}
theorem wo_some {r : Out} : WO (some (r, M)) Q ↔ Q r M := ⟨fun ⟨_, _, e, h⟩ => by cases e; exact h, fun h => ⟨_, _, rfl, h⟩⟩
theorem wsrc_some {s : Src} : WSrc (some s) M QI ↔ QI s M := ⟨fun ⟨_, e, h⟩ => by cases e; exact h, fun h => ⟨_, rfl, h⟩⟩
theorem wm_some {P : Mem → Prop} : WM (some M) P ↔ P M := ⟨fun ⟨_, e, h⟩ => by cases e; exact h, fun h => ⟨_, rfl, h⟩⟩
theorem wenv_some {P : Env → Prop} : WEnv (some ρ) P ↔ P ρ := ⟨fun ⟨_, e, h⟩ => by cases e; exact h, fun h => ⟨_, rfl, h⟩⟩
theorem wd_some {P : D → Prop} : WD (some (some d)) P ↔ P d := ⟨fun ⟨_, e, h⟩ => by cases e; exact h, fun h => ⟨_, rfl, h⟩⟩
theorem bex {α β γ : Type} {o : Option (α × β)} {h : α × β → Option γ} {P : γ → Prop} : (∃ r, o.bind h = some r ∧ P r) ↔ ∃ x y, o = some (x, y) ∧ ∃ r, h (x, y) = some r ∧ P r := by
  constructor
  · rintro ⟨r, e, p⟩
    obtain ⟨⟨x, y⟩, e1, e2⟩ := bind_some e
    exact ⟨x, y, e1, r, e2, p⟩
  · rintro ⟨x, y, e1, r, e2, p⟩
    exact ⟨r, by rw [e1]; exact e2, p⟩
theorem bex2 {α β γ δ : Type} {o : Option (α × β)} {h : α × β → Option (γ × δ)} {P : γ → δ → Prop} : (∃ r s, o.bind h = some (r, s) ∧ P r s) ↔ ∃ x y, o = some (x, y) ∧ ∃ r s, h (x, y) = some (r, s) ∧ P r s := by
  constructor
  · rintro ⟨r, s, e, p⟩
    obtain ⟨⟨x, y⟩, e1, e2⟩ := bind_some e
    exact ⟨x, y, e1, r, s, e2, p⟩
  · rintro ⟨x, y, e1, r, s, e2, p⟩
    exact ⟨r, s, by rw [e1]; exact e2, p⟩
theorem nex2 {γ δ : Type} {P : γ → δ → Prop} : (∃ r s, (none : Option (γ × δ)) = some (r, s) ∧ P r s) ↔ False := ⟨fun ⟨_, _, e, _⟩ => (by cases e), False.elim⟩
theorem sex2 {γ δ : Type} {P : γ → δ → Prop} {x : γ} {y : δ} : (∃ r s, some (x, y) = some (r, s) ∧ P r s) ↔ P x y := ⟨fun ⟨_, _, e, h⟩ => by cases e; exact h, fun h => ⟨_, _, rfl, h⟩⟩
theorem sex1 {γ : Type} {P : γ → Prop} {x : γ} : (∃ r, some x = some r ∧ P r) ↔ P x := ⟨fun ⟨_, e, h⟩ => by cases e; exact h, fun h => ⟨_, rfl, h⟩⟩
theorem nex1 {γ : Type} {P : γ → Prop} : (∃ r, (none : Option γ) = some r ∧ P r) ↔ False := ⟨fun ⟨_, e, _⟩ => (by cases e), False.elim⟩
theorem ifex2 {γ δ : Type} {P : γ → δ → Prop} {p : Prop} [Decidable p] {x : γ} {y : δ} : (∃ r s, (if p then some (x, y) else none) = some (r, s) ∧ P r s) ↔ p ∧ P x y := by
  by_cases h : p
  · rw [if_pos h, sex2]; exact ⟨fun q => ⟨h, q⟩, fun q => q.2⟩
  · rw [if_neg h, nex2]; exact ⟨False.elim, fun q => h q.1⟩
theorem we_var {i : Nat} : WE (eVar i) ρ M Q ↔ WD ρ[i]? (kV M Q) := by
  constructor
  · rintro ⟨r, M', e, p⟩
    unfold eVar at e
    split at e
    · rename_i d hd; cases e; exact ⟨d, hd, p⟩
    · cases e
  · rintro ⟨d, e, p⟩
    exact ⟨_, _, by simp only [eVar, e], p⟩
theorem kV_eq : kV M Q d ↔ Q (.v d) M := Iff.rfl
theorem we_c : WE (eC d) ρ M Q ↔ Q (.v d) M := sex2
theorem we_bin : WE (eBin f a b) ρ M Q ↔ WE a ρ M (kBin1 f b ρ Q) := by
  unfold WE eBin; rw [bex2]; simp only [bex2]; exact Iff.rfl
theorem kBin1_eq : kBin1 f b ρ Q x M ↔ WE b ρ M (kBin2 f x Q) := Iff.rfl
theorem kBin2_eq : kBin2 f x Q y M ↔ WO (f x y M) Q := Iff.rfl
theorem we_un : WE (eUn f1 a) ρ M Q ↔ WE a ρ M (kUn f1 Q) := by unfold WE eUn; rw [bex2]; exact Iff.rfl
theorem kUn_eq : kUn f1 Q x M ↔ WO (f1 x M) Q := Iff.rfl
theorem we_and : WE (eAnd a b) ρ M Q ↔ WE a ρ M (kAnd b ρ Q) := by
  unfold WE eAnd; rw [bex2]; refine exists_congr fun x => exists_congr fun y => and_congr_right fun _ => ?_
  cases x with
  | o b => exact nex2
  | v d => cases d with
    | bl p => cases p <;> first | exact Iff.rfl | exact sex2
    | _ => exact nex2
theorem kAnd_t : kAnd b ρ Q (.v (.bl true)) M ↔ WE b ρ M Q := Iff.rfl
theorem kAnd_f : kAnd b ρ Q (.v (.bl false)) M ↔ Q (.v (.bl false)) M := Iff.rfl
theorem we_or : WE (eOr a b) ρ M Q ↔ WE a ρ M (kOr b ρ Q) := by
  unfold WE eOr; rw [bex2]; refine exists_congr fun x => exists_congr fun y => and_congr_right fun _ => ?_
  cases x with
  | o b => exact nex2
  | v d => cases d with
    | bl p => cases p <;> first | exact Iff.rfl | exact sex2
    | _ => exact nex2
theorem kOr_t : kOr b ρ Q (.v (.bl true)) M ↔ Q (.v (.bl true)) M := Iff.rfl
theorem kOr_f : kOr b ρ Q (.v (.bl false)) M ↔ WE b ρ M Q := Iff.rfl
theorem we_not : WE (eNot a) ρ M Q ↔ WE a ρ M (kNot Q) := by
  unfold WE eNot; rw [bex2]; refine exists_congr fun x => exists_congr fun y => and_congr_right fun _ => ?_
  cases x with
  | o b => exact nex2
  | v d => cases d with
    | bl p => exact sex2
    | _ => exact nex2
theorem kNot_eq {p : Bool} : kNot Q (.v (.bl p)) M ↔ Q (.v (.bl (!p))) M := Iff.rfl
theorem we_if : WE (eIf ca a b) ρ M Q ↔ WB ca ρ M (kIf a b ρ Q) := by
  unfold WE WB eIf; rw [bex2]; refine exists_congr fun x => exists_congr fun y => and_congr_right fun _ => ?_
  unfold kIf; cases x <;> exact Iff.rfl
theorem kIf_t : kIf a b ρ Q true M ↔ WE a ρ M Q := Iff.rfl
theorem kIf_f : kIf a b ρ Q false M ↔ WE b ρ M Q := Iff.rfl
theorem wb_of : WB (bOf a) ρ M QB ↔ WE a ρ M (kOf QB) := by
  unfold WE WB bOf; rw [bex2]; refine exists_congr fun x => exists_congr fun y => and_congr_right fun _ => ?_
  cases x with
  | o b => exact nex2
  | v d => cases d with
    | bl p => exact sex2
    | _ => exact nex2
theorem kOf_eq {p : Bool} : kOf QB (.v (.bl p)) M ↔ QB p M := Iff.rfl
theorem wb_and : WB (bAnd ca cb) ρ M QB ↔ WB ca ρ M (kbAnd cb ρ QB) := by
  unfold WB bAnd; rw [bex2]; refine exists_congr fun x => exists_congr fun y => and_congr_right fun _ => ?_
  unfold kbAnd; cases x <;> first | exact Iff.rfl | exact sex2
theorem kbAnd_t : kbAnd cb ρ QB true M ↔ WB cb ρ M QB := Iff.rfl
theorem kbAnd_f : kbAnd cb ρ QB false M ↔ QB false M := Iff.rfl
theorem wb_or : WB (bOr ca cb) ρ M QB ↔ WB ca ρ M (kbOr cb ρ QB) := by
  unfold WB bOr; rw [bex2]; refine exists_congr fun x => exists_congr fun y => and_congr_right fun _ => ?_
  unfold kbOr; cases x <;> first | exact Iff.rfl | exact sex2
theorem kbOr_t : kbOr cb ρ QB true M ↔ QB true M := Iff.rfl
theorem kbOr_f : kbOr cb ρ QB false M ↔ WB cb ρ M QB := Iff.rfl
theorem wb_not : WB (bNot ca) ρ M QB ↔ WB ca ρ M (kbNot QB) := by
  unfold WB bNot; rw [bex2]; refine exists_congr fun x => exists_congr fun y => and_congr_right fun _ => sex2
theorem kbNot_eq {p : Bool} : kbNot QB p M ↔ QB (!p) M := Iff.rfl
theorem wb_yes : WB bYes ρ M QB ↔ QB true M := sex2
theorem wa_nil : WA aNil ρ M QA ↔ QA [] M := sex2
theorem wa_cons : WA (aCons a fr) ρ M QA ↔ WE a ρ M (kCons1 fr ρ QA) := by
  unfold WA WE aCons; rw [bex2]; refine exists_congr fun x => exists_congr fun y => and_congr_right fun _ => ?_
  unfold kCons1 WA; rw [bex2]; refine exists_congr fun x => exists_congr fun y => and_congr_right fun _ => sex2
theorem kCons1_v : kCons1 fr ρ QA (.v d) M ↔ WA fr ρ M (kCons2 d QA) := Iff.rfl
theorem kCons1_o {o : Ob} : kCons1 fr ρ QA (.o o) M ↔ WA fr ρ (M ++ [o]) (kCons2 (.ref M.length) QA) := Iff.rfl
theorem kCons2_eq : kCons2 d QA ds M ↔ QA (d :: ds) M := Iff.rfl
theorem we_tup : WE (eTup fr) ρ M Q ↔ WA fr ρ M (kTup Q) := by
  unfold WE WA eTup; rw [bex2]; refine exists_congr fun x => exists_congr fun y => and_congr_right fun _ => ifex2
theorem kTup_eq : kTup Q ds M ↔ fits ds.length ∧ Q (.v (.tup ds)) M := Iff.rfl
theorem we_lst : WE (eLst fr) ρ M Q ↔ WA fr ρ M (kLst Q) := by
  unfold WE WA eLst; rw [bex2]; refine exists_congr fun x => exists_congr fun y => and_congr_right fun _ => ifex2
theorem kLst_eq : kLst Q ds M ↔ fits ds.length ∧ Q (.o (.lst ds)) M := Iff.rfl
theorem we_call {F : Fn} : WE (eCall F fr) ρ M Q ↔ WA fr ρ M (kCall F Q) := by unfold WE WA eCall; rw [bex2]; exact Iff.rfl
theorem kCall_eq {F : Fn} : kCall F Q ds M ↔ WO (F ds M) Q := Iff.rfl
theorem we_chain {f' : F2} : WE (eChain f f' a b c) ρ M Q ↔ WE a ρ M (kCh1 f f' b c ρ Q) := by
  unfold WE eChain; rw [bex2]; refine exists_congr fun x => exists_congr fun y => and_congr_right fun _ => ?_
  unfold kCh1 WE; rw [bex2]; refine exists_congr fun x => exists_congr fun y => and_congr_right fun _ => ?_
  unfold WO; rw [bex2]; refine exists_congr fun x3 => exists_congr fun y3 => and_congr_right fun _ => ?_
  cases x3 with
  | o b => exact nex2
  | v d => cases d with
    | bl p => cases p with
      | true => simp only [bex2]
      | false => exact sex2
    | _ => exact nex2
theorem kCh1_eq {f' : F2} : kCh1 f f' b c ρ Q x M ↔ WE b ρ M (kCh2 f f' c ρ Q x) := Iff.rfl
theorem kCh2_eq {f' : F2} : kCh2 f f' c ρ Q x y M ↔ WO (f x y M) (kCh3 f' c ρ Q y) := Iff.rfl
theorem kCh3_t {f' : F2} : kCh3 f' c ρ Q y (.v (.bl true)) M ↔ WE c ρ M (kBin2 f' y Q) := Iff.rfl
theorem kCh3_f {f' : F2} : kCh3 f' c ρ Q y (.v (.bl false)) M ↔ Q (.v (.bl false)) M := Iff.rfl
theorem itn2 {α β : Type} {p : Prop} [Decidable p] {o : Option (α × β)} {P : α → β → Prop} : (∃ r s, (if p then o else none) = some (r, s) ∧ P r s) ↔ p ∧ ∃ r s, o = some (r, s) ∧ P r s := by
  by_cases h : p <;> simp [h]
theorem we_mt1 {T : String} : WE (eMt1 T f a b) ρ M Q ↔ WE a ρ M (kMt1 T f b ρ Q) := by
  unfold WE eMt1; rw [bex2]; refine exists_congr fun x => exists_congr fun y => and_congr_right fun _ => ?_
  rw [itn2]; unfold kMt1 WE; rw [bex2]; exact Iff.rfl
theorem kMt1_eq {T : String} : kMt1 T f b ρ Q x M ↔ isTyB T x M = true ∧ WE b ρ M (kBin2 f x Q) := Iff.rfl
theorem we_mt0 {T : String} : WE (eMt0 T f1 a) ρ M Q ↔ WE a ρ M (kMt0 T f1 Q) := by
  unfold WE eMt0; rw [bex2]; refine exists_congr fun x => exists_congr fun y => and_congr_right fun _ => ?_
  rw [itn2]; exact Iff.rfl
theorem kMt0_eq {T : String} : kMt0 T f1 Q x M ↔ isTyB T x M = true ∧ WO (f1 x M) Q := Iff.rfl
theorem we_dm1 : WE (eDm1 f a b) ρ M Q ↔ WE a ρ M (kDm1 f b ρ Q) := by
  unfold WE eDm1; rw [bex2]; refine exists_congr fun x => exists_congr fun y => and_congr_right fun _ => ?_
  rw [itn2]; unfold kDm1 WE; rw [bex2]; exact Iff.rfl
theorem kDm1_eq : kDm1 f b ρ Q x M ↔ isDct x M = true ∧ WE b ρ M (kBin2 f x Q) := Iff.rfl
theorem we_dm2 : WE (eDm2 f3 a b c) ρ M Q ↔ WE a ρ M (kDm2 f3 b c ρ Q) := by
  unfold WE eDm2; rw [bex2]; refine exists_congr fun x => exists_congr fun y => and_congr_right fun _ => ?_
  rw [itn2]; unfold kDm2 WE; rw [bex2]; simp only [bex2]; exact Iff.rfl
theorem kDm2_eq : kDm2 f3 b c ρ Q x M ↔ isDct x M = true ∧ WE b ρ M (kDm2b f3 c ρ x Q) := Iff.rfl
theorem kDm2b_eq : kDm2b f3 c ρ x Q y M ↔ WE c ρ M (kF3 f3 x y Q) := Iff.rfl
theorem kF3_eq : kF3 f3 x y Q z M ↔ WO (f3 x y z M) Q := Iff.rfl
theorem we_tm1 : WE (eTm1 f a b) ρ M Q ↔ WE a ρ M (kTm1 f b ρ Q) := by
  unfold WE eTm1; rw [bex2]; refine exists_congr fun x => exists_congr fun y => and_congr_right fun _ => ?_
  unfold kTm1 WE
  cases x with
  | o b => exact nex2
  | v d => cases d with
    | tup xs => simp only [bex2]; exact Iff.rfl
    | _ => exact nex2
theorem kTm1_eq {xs : List D} : kTm1 f b ρ Q (.v (.tup xs)) M ↔ WE b ρ M (kBin2 f (.v (.tup xs)) Q) := Iff.rfl
theorem kTm1_tN {w : List Nat} : kTm1 f b ρ Q (.v (tN w)) M ↔ WE b ρ M (kBin2 f (.v (tN w)) Q) := Iff.rfl
theorem we_sl {lo hi : O} : WE (eSl a lo hi) ρ M Q ↔ WE a ρ M (kSl1 lo hi ρ Q) := by
  unfold WE eSl; rw [bex2]; refine exists_congr fun x => exists_congr fun y => and_congr_right fun _ => ?_
  unfold kSl1 WN; rw [bex2]; simp only [bex2]; exact Iff.rfl
theorem kSl1_eq {lo hi : O} : kSl1 lo hi ρ Q x M ↔ WN lo ρ M (kSl2 hi ρ Q x) := Iff.rfl
theorem kSl2_eq {hi : O} {l : Option Int} : kSl2 hi ρ Q x l M ↔ WN hi ρ M (kSl3 Q x l) := Iff.rfl
theorem kSl3_eq {l h : Option Int} : kSl3 Q x l h M ↔ WO (slF x l h M) Q := Iff.rfl
theorem wn_none : WN oNone ρ M QN ↔ QN none M := sex2
theorem wn_some : WN (oSome a) ρ M QN ↔ WE a ρ M (kSome QN) := by
  unfold WN WE oSome; rw [bex2]; refine exists_congr fun x => exists_congr fun y => and_congr_right fun _ => ?_
  cases x with
  | o b => exact nex2
  | v d => cases d with
    | int p => exact sex2
    | _ => exact nex2
theorem kSome_eq {i : Int} : kSome QN (.v (.int i)) M ↔ QN (some i) M := Iff.rfl
theorem we_comp {vs : List Nat} {t : Tg} : WE (eComp it vs t ca a) ρ M Q ↔ WI it ρ M (kComp t ca a (wipeE ρ vs) Q) := by
  unfold WE WI eComp; rw [bex2]; refine exists_congr fun x => exists_congr fun y => and_congr_right fun _ => ?_
  rw [bex2]; unfold kComp WC; refine exists_congr fun x => exists_congr fun y => and_congr_right fun _ => sex2
theorem kComp_eq {t : Tg} {xs : List D} {lv : List (Nat × Ob)} : kComp t ca a ρ Q ⟨xs, lv⟩ M ↔ WC t ca a lv ρ xs M (kOl Q) := Iff.rfl
theorem kOl_eq : kOl Q ds M ↔ Q (.o (.lst ds)) M := Iff.rfl
theorem we_rg1 {mk : List D → Out} : WE (eRg1 mk a) ρ M Q ↔ WE a ρ M (kRg1 mk Q) := by
  unfold WE eRg1; rw [bex2]; refine exists_congr fun x => exists_congr fun y => and_congr_right fun _ => ?_
  cases x with
  | o b => exact nex2
  | v d => cases d with
    | int p => exact ifex2
    | _ => exact nex2
theorem kRg1_eq {mk : List D → Out} {j : Int} : kRg1 mk Q (.v (.int j)) M ↔ rgOk j ∧ Q (mk (upto 0 j.toNat)) M := Iff.rfl
theorem we_rg2 {mk : List D → Out} : WE (eRg2 mk a b) ρ M Q ↔ WE a ρ M (kRg2a mk b ρ Q) := by
  unfold WE eRg2; rw [bex2]; refine exists_congr fun x => exists_congr fun y => and_congr_right fun _ => ?_
  rw [bex2]; unfold kRg2a WE; refine exists_congr fun x2 => exists_congr fun y2 => and_congr_right fun _ => ?_
  cases x with
  | o b => exact nex2
  | v d => cases d with
    | int p => cases x2 with
      | o b => exact nex2
      | v d2 => cases d2 with
        | int p => exact ifex2
        | _ => exact nex2
    | _ => exact nex2
theorem kRg2a_eq {mk : List D → Out} : kRg2a mk b ρ Q x M ↔ WE b ρ M (kRg2b mk Q x) := Iff.rfl
theorem kRg2b_eq {mk : List D → Out} {i j : Int} : kRg2b mk Q (.v (.int i)) (.v (.int j)) M ↔ rg2Ok i j ∧ Q (mk (upto i (j - i).toNat)) M := Iff.rfl
theorem we_dnew : WE eDnew ρ M Q ↔ Q (.o (.dcr [])) M := sex2
/-! walks -/
theorem wi_e : WI (iE a) ρ M QI ↔ WE a ρ M (kiE QI) := by
  unfold WI WE iE; rw [bex2]; refine exists_congr fun x => exists_congr fun y => and_congr_right fun _ => ?_
  unfold kiE WSrc
  constructor
  · rintro ⟨r, s, e, p⟩; obtain ⟨u, e1, e2⟩ := bind_some e; cases e2; exact ⟨_, e1, p⟩
  · rintro ⟨u, e1, p⟩; exact ⟨u, y, by simp only at e1 ⊢; rw [e1]; rfl, p⟩
theorem kiE_eq : kiE QI x M ↔ WSrc (srcOf x M) M QI := Iff.rfl
theorem wi_rg1 : WI (iRg1 a) ρ M QI ↔ WE a ρ M (kiRg1 QI) := by
  unfold WI WE iRg1; rw [bex2]; refine exists_congr fun x => exists_congr fun y => and_congr_right fun _ => ?_
  cases x with
  | o b => exact nex2
  | v d => cases d with
    | int p => exact ifex2
    | _ => exact nex2
theorem kiRg1_eq {j : Int} : kiRg1 QI (.v (.int j)) M ↔ rgOk j ∧ QI ⟨upto 0 j.toNat, []⟩ M := Iff.rfl
theorem wi_rg2 : WI (iRg2 a b) ρ M QI ↔ WE a ρ M (kiRg2a b ρ QI) := by
  unfold WI WE iRg2; rw [bex2]; refine exists_congr fun x => exists_congr fun y => and_congr_right fun _ => ?_
  rw [bex2]; unfold kiRg2a WE; refine exists_congr fun x2 => exists_congr fun y2 => and_congr_right fun _ => ?_
  cases x with
  | o b => exact nex2
  | v d => cases d with
    | int p => cases x2 with
      | o b => exact nex2
      | v d2 => cases d2 with
        | int p => exact ifex2
        | _ => exact nex2
    | _ => exact nex2
theorem kiRg2a_eq : kiRg2a b ρ QI x M ↔ WE b ρ M (kiRg2b QI x) := Iff.rfl
theorem kiRg2b_eq {i j : Int} : kiRg2b QI (.v (.int i)) (.v (.int j)) M ↔ rg2Ok i j ∧ QI ⟨upto i (j - i).toNat, []⟩ M := Iff.rfl
theorem wi_zip : WI (iZip a b) ρ M QI ↔ WE a ρ M (kiZip1 b ρ QI) := by
  unfold WI WE iZip; rw [bex2]; refine exists_congr fun x => exists_congr fun y => and_congr_right fun _ => ?_
  rw [bex2]; unfold kiZip1 WE WSrc; refine exists_congr fun x => exists_congr fun y => and_congr_right fun _ => ?_
  constructor
  · rintro ⟨r, s, e, p⟩; obtain ⟨u, e1, e2⟩ := bind_some e; cases e2; exact ⟨_, e1, p⟩
  · rintro ⟨u, e1, p⟩; exact ⟨u, y, by simp only at e1 ⊢; rw [e1]; rfl, p⟩
theorem kiZip1_eq : kiZip1 b ρ QI x M ↔ WE b ρ M (kiZip2 QI x) := Iff.rfl
theorem kiZip2_eq : kiZip2 QI x y M ↔ WSrc (zipOf x y M) M QI := Iff.rfl
theorem wi_enum : WI (iEnumE a) ρ M QI ↔ WE a ρ M (kiEnum QI) := by
  unfold WI WE iEnumE; rw [bex2]; refine exists_congr fun x => exists_congr fun y => and_congr_right fun _ => ?_
  unfold kiEnum WSrc
  constructor
  · rintro ⟨r, s, e, p⟩; obtain ⟨u, e1, e2⟩ := bind_some e; cases e2; exact ⟨_, e1, p⟩
  · rintro ⟨u, e1, p⟩; exact ⟨u, y, by simp only at e1 ⊢; rw [e1]; rfl, p⟩
theorem kiEnum_eq : kiEnum QI x M ↔ WSrc (enumOf x M) M QI := Iff.rfl
/-! targets -/
theorem wg_t {t : Tg} : WG (gT t) d ρ M QG ↔ WEnv (t.put d ρ) (kgE M QG) := by
  unfold WG gT WEnv
  constructor
  · rintro ⟨r, s, e, p⟩
    obtain ⟨u, e1, e2⟩ := Option.map_eq_some_iff.mp e
    cases e2
    exact ⟨_, e1, p⟩
  · rintro ⟨u, e1, p⟩; exact ⟨u, M, by rw [e1]; rfl, p⟩
theorem kgE_eq : kgE M QG ρ ↔ QG ρ M := Iff.rfl
theorem wg_ix : WG (gIx a b) d ρ M QG ↔ WE a ρ M (kgIx1 b d ρ QG) := by
  unfold WG WE gIx; rw [bex2]; refine exists_congr fun x => exists_congr fun y => and_congr_right fun _ => ?_
  rw [bex2]; unfold kgIx1 WE WM; refine exists_congr fun x => exists_congr fun y => and_congr_right fun _ => ?_
  constructor
  · rintro ⟨r, s, e, p⟩; obtain ⟨u, e1, e2⟩ := bind_some e; cases e2; exact ⟨_, e1, p⟩
  · rintro ⟨u, e1, p⟩; exact ⟨ρ, u, by simp only at e1 ⊢; rw [e1]; rfl, p⟩
theorem kgIx1_eq : kgIx1 b d ρ QG x M ↔ WE b ρ M (kgIx2 d ρ QG x) := Iff.rfl
theorem kgIx2_eq : kgIx2 d ρ QG x y M ↔ WM (stoF x y d M) (kgQ ρ QG) := Iff.rfl
theorem wg_dx : WG (gDx a b) d ρ M QG ↔ WE a ρ M (kgDx1 b d ρ QG) := by
  unfold WG WE gDx; rw [bex2]; refine exists_congr fun x => exists_congr fun y => and_congr_right fun _ => ?_
  rw [bex2]; unfold kgDx1 WE WM; refine exists_congr fun x => exists_congr fun y => and_congr_right fun _ => ?_
  constructor
  · rintro ⟨r, s, e, p⟩; obtain ⟨u, e1, e2⟩ := bind_some e; cases e2; exact ⟨_, e1, p⟩
  · rintro ⟨u, e1, p⟩; exact ⟨ρ, u, by simp only at e1 ⊢; rw [e1]; rfl, p⟩
theorem kgDx1_eq : kgDx1 b d ρ QG x M ↔ WE b ρ M (kgDx2 d ρ QG x) := Iff.rfl
theorem kgDx2_eq : kgDx2 d ρ QG x y M ↔ WM (dstoF x y d M) (kgQ ρ QG) := Iff.rfl
theorem kgQ_eq : kgQ ρ QG M ↔ QG ρ M := Iff.rfl
/-! statements -/
theorem ws_nil : WS sNil ρ M QS ↔ QS (.nx ρ M) := sex1
theorem ws_brk : WS sBrk ρ M QS ↔ QS (.bk ρ M) := sex1
theorem ws_cnt : WS sCnt ρ M QS ↔ QS (.ct ρ M) := sex1
theorem ws_retN : WS sRetN ρ M QS ↔ QS (.rt (.v .non) M) := sex1
theorem bexS {γ δ : Type} {o : Option γ} {h : γ → Option δ} {P : δ → Prop} : (∃ r, o.bind h = some r ∧ P r) ↔ ∃ x, o = some x ∧ ∃ r, h x = some r ∧ P r := by
  constructor
  · rintro ⟨r, e, p⟩
    obtain ⟨x, e1, e2⟩ := bind_some e
    exact ⟨x, e1, r, e2, p⟩
  · rintro ⟨x, e1, r, e2, p⟩
    exact ⟨r, by rw [e1]; exact e2, p⟩
theorem ws_seq : WS (sSeq s1 s2) ρ M QS ↔ WS s1 ρ M (kSeq s2 QS) := by
  unfold WS sSeq; rw [bexS]; refine exists_congr fun x => and_congr_right fun _ => ?_
  unfold kSeq; cases x <;> first | exact Iff.rfl | exact sex1
theorem kSeq_nx : kSeq s2 QS (.nx ρ M) ↔ WS s2 ρ M QS := Iff.rfl
theorem kSeq_rt : kSeq s2 QS (.rt x M) ↔ QS (.rt x M) := Iff.rfl
theorem kSeq_bk : kSeq s2 QS (.bk ρ M) ↔ QS (.bk ρ M) := Iff.rfl
theorem kSeq_ct : kSeq s2 QS (.ct ρ M) ↔ QS (.ct ρ M) := Iff.rfl
theorem ws_set {i : Nat} : WS (sSet i a) ρ M QS ↔ WE a ρ M (kSet i ρ QS) := by
  unfold WS WE sSet; rw [bex]; refine exists_congr fun x => exists_congr fun y => and_congr_right fun _ => sex1
theorem kSet_v {i : Nat} : kSet i ρ QS (.v d) M ↔ QS (.nx (ρ.set i (some d)) M) := Iff.rfl
theorem kSet_o {i : Nat} {o : Ob} : kSet i ρ QS (.o o) M ↔ QS (.nx (ρ.set i (some (.ref M.length))) (M ++ [o])) := Iff.rfl
theorem ws_put : WS (sPut a g) ρ M QS ↔ WE a ρ M (kPut g ρ QS) := by
  unfold WS WE sPut; rw [bex]; refine exists_congr fun x => exists_congr fun y => and_congr_right fun _ => ?_
  rw [bex]; unfold kPut WG; refine exists_congr fun x => exists_congr fun y => and_congr_right fun _ => sex1
theorem kPut_v : kPut g ρ QS (.v d) M ↔ WG g d ρ M (kNx QS) := Iff.rfl
theorem kPut_o {o : Ob} : kPut g ρ QS (.o o) M ↔ WG g (.ref M.length) ρ (M ++ [o]) (kNx QS) := Iff.rfl
theorem kNx_eq : kNx QS ρ M ↔ QS (.nx ρ M) := Iff.rfl
theorem ws_par {is : List Nat} : WS (sPar is fr) ρ M QS ↔ WA fr ρ M (kPar is ρ QS) := by
  unfold WS WA sPar; rw [bex]; refine exists_congr fun x => exists_congr fun y => and_congr_right fun _ => ?_
  rw [bexS]; unfold kPar WEnv; refine exists_congr fun x => and_congr_right fun _ => sex1
theorem kPar_eq {is : List Nat} : kPar is ρ QS ds M ↔ WEnv (setAll is ds ρ) (kNx1 QS M) := Iff.rfl
theorem kNx1_eq : kNx1 QS M ρ ↔ QS (.nx ρ M) := Iff.rfl
theorem ws_do : WS (sDo a) ρ M QS ↔ WE a ρ M (kDo ρ QS) := by
  unfold WS WE sDo; rw [bex]; refine exists_congr fun x => exists_congr fun y => and_congr_right fun _ => sex1
theorem kDo_eq : kDo ρ QS x M ↔ QS (.nx ρ M) := Iff.rfl
theorem ws_ret : WS (sRet a) ρ M QS ↔ WE a ρ M (kRet QS) := by
  unfold WS WE sRet; rw [bex]; refine exists_congr fun x => exists_congr fun y => and_congr_right fun _ => sex1
theorem kRet_eq : kRet QS x M ↔ QS (.rt x M) := Iff.rfl
theorem ws_if : WS (sIf ca s1 s2) ρ M QS ↔ WB ca ρ M (kIfS s1 s2 ρ QS) := by
  unfold WS WB sIf; rw [bex]; refine exists_congr fun x => exists_congr fun y => and_congr_right fun _ => ?_
  unfold kIfS; cases x <;> exact Iff.rfl
theorem kIfS_t : kIfS s1 s2 ρ QS true M ↔ WS s1 ρ M QS := Iff.rfl
theorem kIfS_f : kIfS s1 s2 ρ QS false M ↔ WS s2 ρ M QS := Iff.rfl
theorem ws_aug {i : Nat} : WS (sAug i f a) ρ M QS ↔ WD ρ[i]? (kAug1 i f a ρ M QS) := by
  unfold WS sAug WD
  constructor
  · rintro ⟨r, e, p⟩
    split at e
    · rename_i d hd
      refine ⟨d, hd, ?_⟩
      have := (bex (P := QS)).mp ⟨r, e, p⟩
      obtain ⟨x, y, e1, r, e2, p⟩ := this
      obtain ⟨x2, y2, e3, r2, e4, p2⟩ := (bex (P := QS)).mp ⟨r, e2, p⟩
      cases e4
      exact ⟨x, y, e1, x2, y2, e3, p2⟩
    · cases e
  · rintro ⟨d, hd, x, y, e1, x2, y2, e3, p⟩
    refine ⟨_, ?_, p⟩
    simp only [hd, e1, Option.bind_some, e3]
theorem kAug1_eq {i : Nat} : kAug1 i f a ρ M QS d ↔ WE a ρ M (kAug2 i f ρ QS d) := Iff.rfl
theorem kAug2_eq {i : Nat} : kAug2 i f ρ QS d x M ↔ WO (f (.v d) x M) (kSet i ρ QS) := Iff.rfl
theorem ws_for : WS (sFor it g s1) ρ M QS ↔ WI it ρ M (kFor g s1 ρ QS) := by
  unfold WS WI sFor; rw [bex]; exact Iff.rfl
theorem kFor_eq {xs : List D} {lv : List (Nat × Ob)} : kFor g s1 ρ QS ⟨xs, lv⟩ M ↔ WL g s1 lv xs ρ M QS := Iff.rfl
theorem ws_while : WS (sWhile ca s1) ρ M QS ↔ WH ca s1 fuel ρ M QS := Iff.rfl
theorem kTurn_nx {J : Env → Mem → Prop} : kTurn J QS (.nx ρ M) ↔ J ρ M := Iff.rfl
theorem kTurn_ct {J : Env → Mem → Prop} : kTurn J QS (.ct ρ M) ↔ J ρ M := Iff.rfl
theorem kTurn_bk {J : Env → Mem → Prop} : kTurn J QS (.bk ρ M) ↔ QS (.nx ρ M) := Iff.rfl
theorem kTurn_rt {J : Env → Mem → Prop} : kTurn J QS (.rt x M) ↔ QS (.rt x M) := Iff.rfl
theorem kG_eq : kG s1 QS ρ M ↔ WS s1 ρ M QS := Iff.rfl
/-! defs -/
theorem wo_fn {np ns : Nat} (h : ds.length = np) : WO (fnD np ns s1 ds M) Q ↔ WS s1 (ds.map some ++ List.replicate (ns - np) none) M (kFn M Q) := by
  unfold WO WS fnD
  rw [if_pos h]
  constructor
  · rintro ⟨r, M', e, p⟩
    obtain ⟨x, e1, e2⟩ := bind_some e
    refine ⟨x, e1, ?_⟩
    unfold kFn
    split at e2 <;> first | cases e2 | skip
    · rename_i x' m' ; have := Option.some.inj e2; first | (simp only; rw [this]; exact p) | (rw [this]; exact p)
    · have := Option.some.inj e2; first | (simp only; rw [this]; exact p) | (rw [this]; exact p)
  · rintro ⟨x, e1, p⟩
    cases x with
    | rt v m' => exact ⟨_, _, by rw [e1]; rfl, p⟩
    | nx v m' => exact ⟨_, _, by rw [e1]; rfl, p⟩
    | bk v m' => exact p.elim
    | ct v m' => exact p.elim
theorem kFn_rt {M0 : Mem} : kFn M0 Q (.rt x M) ↔ Q (shut M0 x M).1 (shut M0 x M).2 := Iff.rfl
theorem kFn_nx {M0 : Mem} : kFn M0 Q (.nx ρ M) ↔ Q (shut M0 (.v .non) M).1 (shut M0 (.v .non) M).2 := Iff.rfl
end
end Q
namespace Q
open PySem L2
/-! ### all rules of the machine in one word -/
theorem lgz {α : Type} {a : α} {l : List α} : (a :: l)[0]? = some a := rfl
theorem lgs {α : Type} {a : α} {l : List α} {n : Nat} : (a :: l)[n + 1]? = l[n]? := List.getElem?_cons_succ
theorem lsz {α : Type} {a b : α} {l : List α} : (a :: l).set 0 b = b :: l := rfl
theorem lss {α : Type} {a b : α} {l : List α} {n : Nat} : (a :: l).set (n + 1) b = a :: l.set n b := rfl
theorem tpn {i : Nat} {d : D} {ρ : Env} : Tg.put (.nm i) d ρ = some (ρ.set i (some d)) := rfl
theorem tpt {is : List Nat} {ds : List D} {ρ : Env} : Tg.put (.tp is) (.tup ds) ρ = setAll is ds ρ := rfl
theorem tpp {is : List Nat} {ds : List D} {ρ : Env} : Tg.put (.tp is) (.par ds) ρ = setAll is ds ρ := rfl
theorem san {ρ : Env} : setAll [] [] ρ = some ρ := rfl
theorem sac {i : Nat} {is : List Nat} {d : D} {ds : List D} {ρ : Env} : setAll (i :: is) (d :: ds) ρ = setAll is ds (ρ.set i (some d)) := rfl
theorem wpn {ρ : Env} : wipeE ρ [] = ρ := rfl
theorem wpc {ρ : Env} {v : Nat} {vs : List Nat} : wipeE ρ (v :: vs) = (wipeE ρ vs).set v none := rfl
theorem ft0 : fits ([] : List D).length := fits_of (by simp)
theorem ft1 {a : D} : fits [a].length := fits_of (by simp)
theorem ft2 {a b : D} : fits [a, b].length := fits_of (by simp)
theorem ft3 {a b c : D} : fits [a, b, c].length := fits_of (by simp)
theorem ft4 {a b c d : D} : fits [a, b, c, d].length := fits_of (by simp)
theorem ft5 {a b c d e : D} : fits [a, b, c, d, e].length := fits_of (by simp)
theorem ft6 {a b c d e f : D} : fits [a, b, c, d, e, f].length := fits_of (by simp)
theorem ft7 {a b c d e f g : D} : fits [a, b, c, d, e, f, g].length := fits_of (by simp)
def wp := And.intro @wo_some (And.intro @wsrc_some (And.intro @wm_some (And.intro @wenv_some (And.intro @wd_some (And.intro @we_var (And.intro @kV_eq (And.intro @we_c (And.intro @we_bin (And.intro @kBin1_eq (And.intro @kBin2_eq (And.intro @we_un (And.intro @kUn_eq (And.intro @we_and (And.intro @kAnd_t (And.intro @kAnd_f (And.intro @we_or (And.intro @kOr_t (And.intro @kOr_f (And.intro @we_not (And.intro @kNot_eq (And.intro @we_if (And.intro @kIf_t (And.intro @kIf_f (And.intro @wb_of (And.intro @kOf_eq (And.intro @wb_and (And.intro @kbAnd_t (And.intro @kbAnd_f (And.intro @wb_or (And.intro @kbOr_t (And.intro @kbOr_f (And.intro @wb_not (And.intro @kbNot_eq (And.intro @wb_yes (And.intro @wa_nil (And.intro @wa_cons (And.intro @kCons1_v (And.intro @kCons1_o (And.intro @kCons2_eq (And.intro @we_tup (And.intro @kTup_eq (And.intro @we_lst (And.intro @kLst_eq (And.intro @we_call (And.intro @kCall_eq (And.intro @we_chain (And.intro @kCh1_eq (And.intro @kCh2_eq (And.intro @kCh3_t (And.intro @kCh3_f (And.intro @we_mt1 (And.intro @kMt1_eq (And.intro @we_mt0 (And.intro @kMt0_eq (And.intro @we_dm1 (And.intro @kDm1_eq (And.intro @we_dm2 (And.intro @kDm2_eq (And.intro @kDm2b_eq (And.intro @kF3_eq (And.intro @we_tm1 (And.intro @kTm1_eq (And.intro @kTm1_tN (And.intro @we_sl (And.intro @kSl1_eq (And.intro @kSl2_eq (And.intro @kSl3_eq (And.intro @wn_none (And.intro @wn_some (And.intro @kSome_eq (And.intro @we_comp (And.intro @kComp_eq (And.intro @kOl_eq (And.intro @we_rg1 (And.intro @kRg1_eq (And.intro @we_rg2 (And.intro @kRg2a_eq (And.intro @kRg2b_eq (And.intro @we_dnew (And.intro @wi_e (And.intro @kiE_eq (And.intro @wi_rg1 (And.intro @kiRg1_eq (And.intro @wi_rg2 (And.intro @kiRg2a_eq (And.intro @kiRg2b_eq (And.intro @wi_zip (And.intro @kiZip1_eq (And.intro @kiZip2_eq (And.intro @wi_enum (And.intro @kiEnum_eq (And.intro @wg_t (And.intro @kgE_eq (And.intro @wg_ix (And.intro @kgIx1_eq (And.intro @kgIx2_eq (And.intro @wg_dx (And.intro @kgDx1_eq (And.intro @kgDx2_eq (And.intro @kgQ_eq (And.intro @ws_nil (And.intro @ws_brk (And.intro @ws_cnt (And.intro @ws_retN (And.intro @ws_seq (And.intro @kSeq_nx (And.intro @kSeq_rt (And.intro @kSeq_bk (And.intro @kSeq_ct (And.intro @ws_set (And.intro @kSet_v (And.intro @kSet_o (And.intro @ws_put (And.intro @kPut_v (And.intro @kPut_o (And.intro @kNx_eq (And.intro @ws_par (And.intro @kPar_eq (And.intro @kNx1_eq (And.intro @ws_do (And.intro @kDo_eq (And.intro @ws_ret (And.intro @kRet_eq (And.intro @ws_if (And.intro @kIfS_t (And.intro @kIfS_f (And.intro @ws_aug (And.intro @kAug1_eq (And.intro @kAug2_eq (And.intro @ws_for (And.intro @kFor_eq (And.intro @ws_while (And.intro @kTurn_nx (And.intro @kTurn_ct (And.intro @kTurn_bk (And.intro @kTurn_rt (@kG_eq)))))))))))))))))))))))))))))))))))))))))))))))))))))))))))))))))))))))))))))))))))))))))))))))))))))))))))))))))))))))))))))))))))))))))
def wx := And.intro @lgz (And.intro @lgs (And.intro @lsz (And.intro @lss (And.intro @tpn (And.intro @tpt (And.intro @tpp (And.intro @san (And.intro @sac (And.intro @wpn (And.intro @wpc (And.intro @ft0 (And.intro @ft1 (And.intro @ft2 (And.intro @ft3 (And.intro @ft4 (And.intro @ft5 (And.intro @ft6 (And.intro @ft7 (And.intro @true_and (And.intro @Bool.not_true @Bool.not_false))))))))))))))))))))
theorem fn_0 {ns : Nat} {s1 : S} {M : Mem} {Q : PO2} : WO (fnD 0 ns s1 [] M) Q ↔ WS s1 (List.replicate (ns - 0) none) M (kFn M Q) := wo_fn rfl
theorem fn_1 {ns : Nat} {s1 : S} {M : Mem} {Q : PO2} {a : D} : WO (fnD 1 ns s1 [a] M) Q ↔ WS s1 (some a :: List.replicate (ns - 1) none) M (kFn M Q) := wo_fn rfl
theorem fn_2 {ns : Nat} {s1 : S} {M : Mem} {Q : PO2} {a b : D} : WO (fnD 2 ns s1 [a, b] M) Q ↔ WS s1 (some a :: some b :: List.replicate (ns - 2) none) M (kFn M Q) := wo_fn rfl
theorem fn_3 {ns : Nat} {s1 : S} {M : Mem} {Q : PO2} {a b c : D} : WO (fnD 3 ns s1 [a, b, c] M) Q ↔ WS s1 (some a :: some b :: some c :: List.replicate (ns - 3) none) M (kFn M Q) := wo_fn rfl
theorem fn_4 {ns : Nat} {s1 : S} {M : Mem} {Q : PO2} {a b c d : D} : WO (fnD 4 ns s1 [a, b, c, d] M) Q ↔ WS s1 (some a :: some b :: some c :: some d :: List.replicate (ns - 4) none) M (kFn M Q) := wo_fn rfl
theorem fn_5 {ns : Nat} {s1 : S} {M : Mem} {Q : PO2} {a b c d e : D} : WO (fnD 5 ns s1 [a, b, c, d, e] M) Q ↔ WS s1 (some a :: some b :: some c :: some d :: some e :: List.replicate (ns - 5) none) M (kFn M Q) := wo_fn rfl
theorem fn_6 {ns : Nat} {s1 : S} {M : Mem} {Q : PO2} {a b c d e f : D} : WO (fnD 6 ns s1 [a, b, c, d, e, f] M) Q ↔ WS s1 (some a :: some b :: some c :: some d :: some e :: some f :: List.replicate (ns - 6) none) M (kFn M Q) := wo_fn rfl
theorem fn_7 {ns : Nat} {s1 : S} {M : Mem} {Q : PO2} {a b c d e f g : D} : WO (fnD 7 ns s1 [a, b, c, d, e, f, g] M) Q ↔ WS s1 (some a :: some b :: some c :: some d :: some e :: some f :: some g :: List.replicate (ns - 7) none) M (kFn M Q) := wo_fn rfl
theorem fn_8 {ns : Nat} {s1 : S} {M : Mem} {Q : PO2} {a b c d e f g h : D} : WO (fnD 8 ns s1 [a, b, c, d, e, f, g, h] M) Q ↔ WS s1 (some a :: some b :: some c :: some d :: some e :: some f :: some g :: some h :: List.replicate (ns - 8) none) M (kFn M Q) := wo_fn rfl
theorem rp_s {n : Nat} : List.replicate (n + 1) (none : Option D) = none :: List.replicate n none := rfl
theorem rp_z : List.replicate 0 (none : Option D) = [] := rfl
def wf := And.intro @fn_0 (And.intro @fn_1 (And.intro @fn_2 (And.intro @fn_3 (And.intro @fn_4 (And.intro @fn_5 (And.intro @fn_6 (And.intro @fn_7 (And.intro @fn_8 (And.intro @rp_s (@rp_z))))))))))
end Q
namespace Q
open PySem L2
/-! ### ends of defs -/
def kIs (d : D) (M0 : Mem) (x : Out) (M : Mem) : Prop := x = .v d ∧ M = M0
theorem wo_eq {o : Option (Out × Mem)} {d : D} {M : Mem} (h : WO o (kIs d M)) : o = some (.v d, M) := by
  obtain ⟨r, M', e, rfl, rfl⟩ := h; exact e
theorem we_eq {e : E} {ρ : Env} {d : D} {M M0 : Mem} (h : WE e ρ M (kIs d M0)) : e ρ M = some (.v d, M0) := by
  obtain ⟨r, M', e, rfl, rfl⟩ := h; exact e
def kIsO (b : Ob) (M0 : Mem) (x : Out) (M : Mem) : Prop := x = .o b ∧ M = M0
theorem wo_eqO {o : Option (Out × Mem)} {d : Ob} {M : Mem} (h : WO o (kIsO d M)) : o = some (.o d, M) := by
  obtain ⟨r, M', e, rfl, rfl⟩ := h; exact e
theorem wo_ex {o : Option (Out × Mem)} {P : PO2} (h : WO o P) : ∃ r M, o = some (r, M) ∧ P r M := h
theorem WO.mono {o : Option (Out × Mem)} {P Q : PO2} (h : WO o P) (k : ∀ r M, P r M → Q r M) : WO o Q := by
  obtain ⟨r, M, e, p⟩ := h; exact ⟨r, M, e, k r M p⟩
theorem WS.mono {s : S} {ρ : Env} {M : Mem} {P Q : R → Prop} (h : WS s ρ M P) (k : ∀ r, P r → Q r) : WS s ρ M Q := by
  obtain ⟨r, e, p⟩ := h; exact ⟨r, e, k r p⟩
section
variable {M : Mem} {Q : PO2} {d : D} {b : Ob} {e : Mem}
theorem kFn_v (h : d.lo M.length) : kFn M Q (.rt (.v d) M) ↔ Q (.v d) M := by rw [kFn_rt, shut_s h]
theorem kFn_va (h : d.lo M.length) : kFn M Q (.rt (.v d) (M ++ e)) ↔ Q (.v d) M := by rw [kFn_rt, shut_v h]
theorem kFn_o (h : b.lo M.length) : kFn M Q (.rt (.o b) M) ↔ Q (.o b) M := by rw [kFn_rt, shut_os h]
theorem kFn_oa (h : b.lo M.length) : kFn M Q (.rt (.o b) (M ++ e)) ↔ Q (.o b) M := by rw [kFn_rt, shut_o h]
theorem kFn_ra {k : Nat} (hk : M.length ≤ k) (he : (M ++ e)[k]? = some b) (h : b.lo M.length) : kFn M Q (.rt (.v (.ref k)) (M ++ e)) ↔ Q (.o b) M := by
  rw [kFn_rt]
  unfold shut
  rw [if_pos (okM_app M e)]
  have h2 : ¬ D.lo M.length (.ref k) := by simp; exact hk
  simp only [if_neg h2, he, if_pos h, List.take_left]
theorem kFn_na {ρ : Env} : kFn M Q (.nx ρ (M ++ e)) ↔ Q (.v .non) M := by rw [kFn_nx, shut_v (by simp)]
theorem kFn_n {ρ : Env} : kFn M Q (.nx ρ M) ↔ Q (.v .non) M := by rw [kFn_nx, shut_s (by simp)]
end
/-! ### memory behind the memory -/
theorem gm0 {M e : Mem} : (M ++ e)[M.length]? = e[0]? := by rw [List.getElem?_append_right (Nat.le_refl _), Nat.sub_self]
theorem gmk {M e : Mem} {k : Nat} : (M ++ e)[M.length + k]? = e[k]? := by rw [List.getElem?_append_right (by omega)]; congr 1; omega
theorem sm0 {M e : Mem} {o : Ob} : (M ++ e).set M.length o = M ++ e.set 0 o := by rw [List.set_append_right _ _ (Nat.le_refl _), Nat.sub_self]
theorem smk {M e : Mem} {o : Ob} {k : Nat} : (M ++ e).set (M.length + k) o = M ++ e.set k o := by rw [List.set_append_right _ _ (by omega)]; congr 2; omega
theorem lapp {M e : Mem} : (M ++ e).length = M.length + e.length := List.length_append
theorem lcon {o : Ob} {e : Mem} : (o :: e).length = e.length + 1 := rfl
theorem lnil : ([] : Mem).length = 0 := rfl
theorem aas {M e f : Mem} : M ++ e ++ f = M ++ (e ++ f) := List.append_assoc _ _ _
theorem aco {o : Ob} {e f : Mem} : (o :: e) ++ f = o :: (e ++ f) := rfl
theorem ani {f : Mem} : ([] : Mem) ++ f = f := rfl
theorem nz {n : Nat} : 0 + n = n := Nat.zero_add n
def wm := And.intro @gm0 (And.intro @gmk (And.intro @sm0 (And.intro @smk (And.intro @lapp (And.intro @lcon (And.intro @lnil (And.intro @aas (And.intro @aco (And.intro @ani @nz)))))))))
/-! ### loops -/
theorem WG.ex {g : G} {d : D} {ρ : Env} {M : Mem} {P : Env → Mem → Prop} (h : WG g d ρ M P) : ∃ r M', g d ρ M = some (r, M') ∧ P r M' := h
theorem wl_inv {g : G} {body : S} {lv : List (Nat × Ob)} {xs : List D} {ρ : Env} {M : Mem} {Q : R → Prop} (J : Nat → Env → Mem → Prop) (h0 : J 0 ρ M) (hl : ∀ i ρ M, i ≤ xs.length → J i ρ M → chk lv M)
    (step : ∀ i x ρ M, xs[i]? = some x → J i ρ M → WG g x ρ M (kG body (kTurn (J (i + 1)) Q))) (done : ∀ ρ M, J xs.length ρ M → Q (.nx ρ M)) : WL g body lv xs ρ M Q := by
  have h : ∀ (n k : Nat) (ρ : Env) (M : Mem), n + k = xs.length → J k ρ M → ∃ r, forL g body lv (xs.drop k) ρ M = some r ∧ Q r := by
    intro n
    induction n with
    | zero =>
      intro k ρ M e j
      rw [List.drop_eq_nil_of_le (by omega), forL, if_pos (hl k ρ M (by omega) j)]
      exact ⟨_, rfl, done ρ M (by rw [show xs.length = k by omega]; exact j)⟩
    | succ n ih =>
      intro k ρ M e j
      have hk : k < xs.length := by omega
      rw [List.drop_eq_getElem_cons hk, forL, if_pos (hl k ρ M (by omega) j)]
      obtain ⟨ρ1, M1, e1, r, e2, p⟩ := step k _ ρ M (List.getElem?_eq_getElem hk) j
      simp only [e1, Option.bind_some, e2]
      cases r with
      | nx ρ2 M2 => exact ih (k + 1) ρ2 M2 (by omega) p
      | ct ρ2 M2 => exact ih (k + 1) ρ2 M2 (by omega) p
      | bk ρ2 M2 => exact ⟨_, rfl, p⟩
      | rt v M2 => exact ⟨_, rfl, p⟩
  have := h xs.length 0 ρ M (by omega) h0
  rw [List.drop_zero] at this
  exact this
theorem chk_nil {M : Mem} : chk [] M := fun p hp => by simp at hp
theorem chk_one {n : Nat} {xs : List D} {M : Mem} (h : M[n]? = some (.lst xs)) : chk [(n, .lst xs)] M := fun p hp => by simp at hp; subst hp; exact h
/-- over a typed list -/
theorem wl_typ {α : Type} (emb : α → D) (ys : List α) {g : G} {body : S} {ρ : Env} {M : Mem} {Q : R → Prop} (J : Nat → Env → Mem → Prop) (h0 : J 0 ρ M)
    (step : ∀ i (hi : i < ys.length) ρ M, J i ρ M → WG g (emb ys[i]) ρ M (kG body (kTurn (J (i + 1)) Q))) (done : ∀ ρ M, J ys.length ρ M → Q (.nx ρ M)) : WL g body [] (ys.map emb) ρ M Q :=
  wl_inv J h0 (fun _ _ _ _ _ => chk_nil) (fun i x ρ M hx j => by
    rw [List.getElem?_map] at hx
    obtain ⟨y, e1, rfl⟩ := Option.map_eq_some_iff.mp hx
    obtain ⟨hi, rfl⟩ := List.getElem?_eq_some_iff.mp e1
    exact step i hi ρ M j) (by rw [List.length_map]; exact done)
theorem wl_typl {α : Type} (emb : α → D) (ys : List α) {g : G} {body : S} {n : Nat} {ρ : Env} {M : Mem} {Q : R → Prop} (J : Nat → Env → Mem → Prop) (h0 : J 0 ρ M) (hl : ∀ i ρ M, J i ρ M → M[n]? = some (.lst (ys.map emb)))
    (step : ∀ i (hi : i < ys.length) ρ M, J i ρ M → WG g (emb ys[i]) ρ M (kG body (kTurn (J (i + 1)) Q))) (done : ∀ ρ M, J ys.length ρ M → Q (.nx ρ M)) : WL g body [(n, .lst (ys.map emb))] (ys.map emb) ρ M Q :=
  wl_inv J h0 (fun i ρ M _ j => chk_one (hl i ρ M j)) (fun i x ρ M hx j => by
    rw [List.getElem?_map] at hx
    obtain ⟨y, e1, rfl⟩ := Option.map_eq_some_iff.mp hx
    obtain ⟨hi, rfl⟩ := List.getElem?_eq_some_iff.mp e1
    exact step i hi ρ M j) (by rw [List.length_map]; exact done)
theorem wl_rg {lo : Int} {n : Nat} {g : G} {body : S} {ρ : Env} {M : Mem} {Q : R → Prop} (J : Nat → Env → Mem → Prop) (h0 : J 0 ρ M)
    (step : ∀ i ρ M, i < n → J i ρ M → WG g (.int (lo + (i : Int))) ρ M (kG body (kTurn (J (i + 1)) Q))) (done : ∀ ρ M, J n ρ M → Q (.nx ρ M)) : WL g body [] (upto lo n) ρ M Q :=
  wl_inv J h0 (fun _ _ _ _ _ => chk_nil) (fun i x ρ M hx j => by
    obtain ⟨hi, rfl⟩ := upto_get hx
    exact step i ρ M hi j) (by rw [upto_len]; exact done)
theorem wl_rg0 {n : Nat} {g : G} {body : S} {ρ : Env} {M : Mem} {Q : R → Prop} (J : Nat → Env → Mem → Prop) (h0 : J 0 ρ M)
    (step : ∀ i ρ M, i < n → J i ρ M → WG g (.int (i : Int)) ρ M (kG body (kTurn (J (i + 1)) Q))) (done : ∀ ρ M, J n ρ M → Q (.nx ρ M)) : WL g body [] (upto 0 n) ρ M Q :=
  wl_rg J h0 (fun i ρ M hi j => by rw [Int.zero_add]; exact step i ρ M hi j) done
def kWh (body : S) (J : Env → Mem → Prop) (Q : R → Prop) (ρ : Env) (b : Bool) (M : Mem) : Prop := match b with | true => WS body ρ M (kTurn J Q) | false => Q (.nx ρ M)
theorem kWh_t {body : S} {J : Env → Mem → Prop} {Q : R → Prop} {ρ : Env} {M : Mem} : kWh body J Q ρ true M ↔ WS body ρ M (kTurn J Q) := Iff.rfl
theorem kWh_f {body : S} {J : Env → Mem → Prop} {Q : R → Prop} {ρ : Env} {M : Mem} : kWh body J Q ρ false M ↔ Q (.nx ρ M) := Iff.rfl
theorem wh_inv {c : B} {body : S} {n n0 : Nat} {ρ : Env} {M : Mem} {Q : R → Prop} (J : Nat → Env → Mem → Prop) (hn : n0 < n) (h0 : J n0 ρ M)
    (step : ∀ k ρ M, J k ρ M → WB c ρ M (kWh body (fun ρ M => ∃ k', k' < k ∧ J k' ρ M) Q ρ)) : WH c body n ρ M Q := by
  induction n generalizing n0 ρ M with
  | zero => omega
  | succ n ih =>
    obtain ⟨b, M1, e1, p⟩ := step n0 ρ M h0
    unfold WH whL
    simp only [e1, Option.bind_some]
    cases b with
    | false => exact ⟨_, rfl, p⟩
    | true =>
      obtain ⟨r, e2, p⟩ := p
      simp only [e2, Option.bind_some]
      cases r with
      | nx ρ2 M2 => obtain ⟨k', hk, j⟩ := p; exact ih (by omega) j
      | ct ρ2 M2 => obtain ⟨k', hk, j⟩ := p; exact ih (by omega) j
      | bk ρ2 M2 => exact ⟨_, rfl, p⟩
      | rt v M2 => exact ⟨_, rfl, p⟩
theorem wfu {c : B} {body : S} {n0 : Nat} {ρ : Env} {M : Mem} {Q : R → Prop} (J : Nat → Env → Mem → Prop) (hn : n0 < 1000000000) (h0 : J n0 ρ M)
    (step : ∀ k ρ M, J k ρ M → WB c ρ M (kWh body (fun ρ M => ∃ k', k' < k ∧ J k' ρ M) Q ρ)) : WH c body fuel ρ M Q := wh_inv J hn h0 step
/-! ### comprehensions -/
def kcV (J : List D → Mem → Prop) (acc : List D) (x : Out) (M : Mem) : Prop := J (acc ++ [(val x M).1]) (val x M).2
def kcB (f : E) (ρ : Env) (J : List D → Mem → Prop) (acc : List D) (b : Bool) (M : Mem) : Prop := match b with | true => WE f ρ M (kcV J acc) | false => J acc M
def kcT (c : B) (f : E) (J : List D → Mem → Prop) (acc : List D) (M : Mem) (ρ : Env) : Prop := WB c ρ M (kcB f ρ J acc)
section
variable {c : B} {f : E} {J : List D → Mem → Prop} {acc : List D} {M : Mem} {ρ : Env} {d : D} {b : Ob}
theorem kcV_v : kcV J acc (.v d) M ↔ J (acc ++ [d]) M := Iff.rfl
theorem kcV_o : kcV J acc (.o b) M ↔ J (acc ++ [.ref M.length]) (M ++ [b]) := Iff.rfl
theorem kcB_t : kcB f ρ J acc true M ↔ WE f ρ M (kcV J acc) := Iff.rfl
theorem kcB_f : kcB f ρ J acc false M ↔ J acc M := Iff.rfl
theorem kcT_eq : kcT c f J acc M ρ ↔ WB c ρ M (kcB f ρ J acc) := Iff.rfl
end
theorem wc_inv {t : Tg} {c : B} {f : E} {lv : List (Nat × Ob)} {ρ : Env} {xs : List D} {M : Mem} {Q : List D → Mem → Prop} (J : Nat → List D → Mem → Prop) (h0 : J 0 [] M) (hl : ∀ i acc M, i ≤ xs.length → J i acc M → chk lv M)
    (step : ∀ i x acc M, xs[i]? = some x → J i acc M → WEnv (t.put x ρ) (kcT c f (J (i + 1)) acc M)) (done : ∀ acc M, J xs.length acc M → Q acc M) : WC t c f lv ρ xs M Q := by
  have h : ∀ (n k : Nat) (acc : List D) (M : Mem), n + k = xs.length → J k acc M → ∃ r M', cmpL t c f lv ρ (xs.drop k) M = some (r, M') ∧ Q (acc ++ r) M' := by
    intro n
    induction n with
    | zero =>
      intro k acc M e j
      rw [List.drop_eq_nil_of_le (by omega), cmpL, if_pos (hl k acc M (by omega) j)]
      exact ⟨_, _, rfl, by rw [List.append_nil]; exact done acc M (by rw [show xs.length = k by omega]; exact j)⟩
    | succ n ih =>
      intro k acc M e j
      have hk : k < xs.length := by omega
      rw [List.drop_eq_getElem_cons hk, cmpL, if_pos (hl k acc M (by omega) j)]
      obtain ⟨ρ1, e1, b, M1, e2, p⟩ := step k _ acc M (List.getElem?_eq_getElem hk) j
      simp only [e1, Option.bind_some, e2]
      cases b with
      | false => exact ih (k + 1) acc M1 (by omega) p
      | true =>
        obtain ⟨x, M2, e3, p⟩ := p
        obtain ⟨r, M', e4, q⟩ := ih (k + 1) _ _ (by omega) p
        simp only [e3, Option.bind_some, e4]
        exact ⟨_, _, rfl, by rw [List.append_assoc] at q; exact q⟩
  exact h xs.length 0 [] M (by omega) h0
theorem WC.mono {t : Tg} {c : B} {f : E} {lv : List (Nat × Ob)} {ρ : Env} {xs : List D} {M : Mem} {P Q : List D → Mem → Prop} (h : WC t c f lv ρ xs M P) (k : ∀ r M, P r M → Q r M) : WC t c f lv ρ xs M Q := by
  obtain ⟨r, M', e, p⟩ := h; exact ⟨r, M', e, k _ _ p⟩
/-- elements that change nothing -/
theorem wc_map {α : Type} (emb h : α → D) (ys : List α) {t : Tg} {f : E} {ρ : Env} {M : Mem} {Q : List D → Mem → Prop} (step : ∀ y ∈ ys, WEnv (t.put (emb y) ρ) fun ρ' => WE f ρ' M (kIs (h y) M)) (done : Q (ys.map h) M) : WC t bYes f [] ρ (ys.map emb) M Q := by
  refine wc_inv (fun i acc M' => acc = (ys.map h).take i ∧ M' = M) ⟨by simp, rfl⟩ (fun _ _ _ _ _ => chk_nil) (fun i x acc M' hx j => ?_) (fun acc M' j => ?_)
  · obtain ⟨rfl, rfl⟩ := j
    rw [List.getElem?_map] at hx
    obtain ⟨y, e1, rfl⟩ := Option.map_eq_some_iff.mp hx
    obtain ⟨hi, rfl⟩ := List.getElem?_eq_some_iff.mp e1
    obtain ⟨ρ', e2, r, M', e3, rfl, rfl⟩ := step ys[i] (List.getElem_mem hi)
    refine ⟨ρ', e2, true, M', rfl, _, _, e3, ?_, rfl⟩
    rw [List.take_add_one]
    simp [hi]
  · obtain ⟨rfl, rfl⟩ := j
    rw [List.take_of_length_le (by simp)]
    exact done
theorem wc_flt {α : Type} (emb h : α → D) (p : α → Bool) (ys : List α) {t : Tg} {c : B} {f : E} {ρ : Env} {M : Mem} {Q : List D → Mem → Prop}
    (step : ∀ y ∈ ys, WEnv (t.put (emb y) ρ) fun ρ' => c ρ' M = some (p y, M) ∧ (p y = true → WE f ρ' M (kIs (h y) M))) (done : Q ((ys.filter p).map h) M) : WC t c f [] ρ (ys.map emb) M Q := by
  refine wc_inv (fun i acc M' => acc = ((ys.take i).filter p).map h ∧ M' = M) ⟨by simp, rfl⟩ (fun _ _ _ _ _ => chk_nil) (fun i x acc M' hx j => ?_) (fun acc M' j => ?_)
  · obtain ⟨rfl, rfl⟩ := j
    rw [List.getElem?_map] at hx
    obtain ⟨y, e1, rfl⟩ := Option.map_eq_some_iff.mp hx
    obtain ⟨hi, rfl⟩ := List.getElem?_eq_some_iff.mp e1
    obtain ⟨ρ', e2, e4, h3⟩ := step ys[i] (List.getElem_mem hi)
    refine ⟨ρ', e2, _, M', e4, ?_⟩
    cases hp : p ys[i] with
    | true =>
      obtain ⟨r, M', e3, rfl, rfl⟩ := h3 hp
      refine ⟨_, _, e3, ?_, rfl⟩
      rw [List.take_add_one, List.filter_append, List.map_append]
      simp [hi, hp]
    | false =>
      refine ⟨?_, rfl⟩
      rw [List.take_add_one, List.filter_append, List.map_append]
      simp [hi, hp]
  · obtain ⟨rfl, rfl⟩ := j
    rw [List.length_map, List.take_length]
    exact done
theorem wb_eq {c : B} {ρ : Env} {M : Mem} {p : Bool} (h : WB c ρ M fun b M' => b = p ∧ M' = M) : c ρ M = some (p, M) := by
  obtain ⟨r, M', e, rfl, rfl⟩ := h; exact e
def wc := And.intro @kcV_v (And.intro @kcV_o (And.intro @kcB_t (And.intro @kcB_f (And.intro @kcT_eq (And.intro @kWh_t @kWh_f)))))
end Q
namespace Q
open PySem L2
section
variable {st : D} {ab : List Nat} {S : Mem → Prop} {nx : Fn}
/-- a draw -/
theorem Gen.w (g : Gen st ab S nx) {M : Mem} (h : S M) {n : Nat} (hn : 0 < n) (hn2 : n ≤ 100000) {K : PO2} (k : ∀ (r : Nat) (M' : Mem), r < n → S M' → Fr ab M M' → K (.v (.int (r : Int))) M') : WO (nx [st, .int (n : Int)] M) K := by
  obtain ⟨r, M', e, q, s, f⟩ := g.next M n h hn hn2
  exact ⟨_, _, e, k r M' q s f⟩
/-- a comprehension whose elements are made by draws -/
theorem Gen.wc {α : Type} (g : Gen st ab S nx) (emb : α → D) (P : Nat → α → Prop) {t : Tg} {f : E} {ρ : Env} {xs : List D} {M : Mem} {Q : List D → Mem → Prop} (h : S M)
    (hE : ∀ i x, xs[i]? = some x → WEnv (t.put x ρ) fun ρ' => ∀ M, S M → WE f ρ' M fun o M' => ∃ a, o = .v (emb a) ∧ P i a ∧ S M' ∧ Fr ab M M')
    (k : ∀ (ys : List α) (M' : Mem), ys.length = xs.length → (∀ i (hi : i < ys.length), P i ys[i]) → S M' → Fr ab M M' → Q (ys.map emb) M') : WC t bYes f [] ρ xs M Q := by
  refine wc_inv (fun i acc M' => ∃ ys : List α, acc = ys.map emb ∧ ys.length = i ∧ (∀ j (hj : j < ys.length), P j ys[j]) ∧ S M' ∧ Fr ab M M') ⟨[], rfl, rfl, fun j hj => by simp at hj, h, Fr.refl _ _⟩ (fun _ _ _ _ _ => chk_nil) (fun i x acc M1 hx j => ?_) (fun acc M1 j => ?_)
  · obtain ⟨ys, rfl, hl, hp, s1, f1⟩ := j
    obtain ⟨ρ', e1, h2⟩ := hE i x hx
    obtain ⟨o, M2, e2, a, rfl, pa, s2, f2⟩ := h2 M1 s1
    refine ⟨ρ', e1, true, M1, rfl, _, _, e2, ys ++ [a], by simp, by simp [hl], fun j hj => ?_, s2, f1.trans f2⟩
    simp only [List.length_append, List.length_cons, List.length_nil] at hj
    by_cases hj2 : j < ys.length
    · rw [List.getElem_append_left hj2]; exact hp j hj2
    · have : j = ys.length := by omega
      subst this
      rw [List.getElem_append_right (Nat.le_refl _)]
      simp only [Nat.sub_self, List.getElem_cons_zero]
      rw [hl]; exact pa
  · obtain ⟨ys, rfl, hl, hp, s1, f1⟩ := j
    exact k ys M1 hl hp s1 f1
/-- a comprehension of draws below n -/
theorem Gen.wds (g : Gen st ab S nx) {n : Nat} (hn : 0 < n) (hn2 : n ≤ 100000) {t : Tg} {f : E} {ρ : Env} {xs : List D} {M : Mem} {Q : List D → Mem → Prop} (h : S M)
    (hE : ∀ x ∈ xs, WEnv (t.put x ρ) fun ρ' => ∀ (M : Mem) (K : PO2), WO (nx [st, .int (n : Int)] M) K → WE f ρ' M K)
    (k : ∀ (w : List Nat) (M' : Mem), w.length = xs.length → (∀ r ∈ w, r < n) → S M' → Fr ab M M' → Q (nats w) M') : WC t bYes f [] ρ xs M Q := by
  refine g.wc (fun (r : Nat) => D.int (r : Int)) (fun _ r => r < n) h (fun i x hx => ?_) (fun ys M' hl hp s f => k ys M' hl (fun r hr => ?_) s f)
  · obtain ⟨ρ', e1, h2⟩ := hE x (List.mem_of_getElem? hx)
    refine ⟨ρ', e1, fun M s => h2 M _ (g.w s hn hn2 fun r M' q s' f' => ⟨r, rfl, q, s', f'⟩)⟩
  · obtain ⟨i, hi, rfl⟩ := List.getElem_of_mem hr
    exact hp i hi
/-- a def's end behind draws -/
theorem Gen.kFn (g : Gen st ab S nx) {M M' : Mem} {d : D} {K : PO2} (f : Fr ab M M') (s : S M') (hd : d.lo M.length) : Q.kFn M K (.rt (.v d) M') ↔ K (.v d) M' := by rw [kFn_rt, g.shutS f s hd]
theorem Gen.kFna (g : Gen st ab S nx) {M M' e : Mem} {d : D} {K : PO2} (f : Fr ab M M') (s : S M') (hd : d.lo M.length) : Q.kFn M K (.rt (.v d) (M' ++ e)) ↔ K (.v d) M' := by rw [kFn_rt, g.shut f s hd]
end
theorem mkT_rg {n : Nat} : mkT (upto 0 n) = .v (tN (List.range n)) := by rw [mkT, upto_nats]; rfl
theorem mkL_rg {n : Nat} : mkL (upto 0 n) = .o (.lst (nats (List.range n))) := by rw [mkL, upto_nats]
theorem src_ref {n : Nat} {xs : List D} {M : Mem} (h : M[n]? = some (.lst xs)) : srcOf (.v (.ref n)) M = some ⟨xs, [(n, .lst xs)]⟩ := by simp [srcOf, h]
theorem isT_ref {n : Nat} {xs : List D} {M : Mem} (h : M[n]? = some (.lst xs)) : isTyB "list" (.v (.ref n)) M = true := by simp [isTyB, h]
theorem isT_ol {xs : List D} {M : Mem} : isTyB "list" (.o (.lst xs)) M = true := by simp [isTyB]
theorem isT_str {s : Str} {M : Mem} : isTyB "str" (.v (.str s)) M = true := by simp [isTyB]
/-- the law's end -/
theorem law_of {F : Fn} (ns : List Int) (h : WO (F [.fl (ns.map .int)] []) fun r _ => r = .v (.bl true)) : ∃ m', F [.fl (ns.map .int)] [] = some (.v (.bl true), m') := by
  obtain ⟨r, M, e, rfl⟩ := h; exact ⟨M, e⟩
theorem law_ofT {F : Fn} (ns : List Int) {M0 : Mem} (h : WO (F [.fl (ns.map .int)] M0) fun r _ => r = .v (.bl true)) : ∃ m', F [.fl (ns.map .int)] M0 = some (.v (.bl true), m') := by
  obtain ⟨r, M, e, rfl⟩ := h; exact ⟨M, e⟩
theorem law_finT {M0 M : Mem} {b : Bool} (h : b = true) : kFn M0 (fun r _ => r = .v (.bl true)) (.rt (.v (.bl b)) M) := by
  subst h
  rw [kFn_rt]
  unfold shut
  split
  · simp [D.lo]
  · rfl
theorem law_fin {M : Mem} {b : Bool} (h : b = true) : kFn [] (fun r _ => r = .v (.bl true)) (.rt (.v (.bl b)) M) := by
  subst h
  rw [kFn_rt, law_shut _ _ (lo_bl 0 true ▸ trivial)]
end Q
namespace Q
open PySem L2
/-! ### the machine's rules for further things -/
def kMt2 (T : String) (f : F3) (b c : E) (ρ : Env) (Q : PO2) (x : Out) (M : Mem) : Prop := isTyB T x M = true ∧ WE b ρ M fun y M => WE c ρ M fun z M => WO (f x y z M) Q
def WK (o : Option (List (D × D))) (Q : List (D × D) → Prop) : Prop := ∃ s, o = some s ∧ Q s
def kKd (Q : PO2) (ds : List D) (M : Mem) : Prop := ∃ kvs, pairsK ds = some kvs ∧ kvs.length ≤ 15 ∧ Q (.o (.dct kvs)) M
def kKd2 (Q : PO2) (M : Mem) (kvs : List (D × D)) : Prop := kvs.length ≤ 15 ∧ Q (.o (.dct kvs)) M
def kKp1 (o i : E) (ρ : Env) (Q : R → Prop) (x : Out) (M : Mem) : Prop := WE o ρ (val x M).2 fun y M' => WE i ρ M' fun z M'' => WM (kstoF y z (val x M).1 M'') fun M3 => Q (.nx ρ M3)
def kKp2 (i : E) (d : D) (ρ : Env) (Q : R → Prop) (y : Out) (M : Mem) : Prop := WE i ρ M fun z M'' => WM (kstoF y z d M'') fun M3 => Q (.nx ρ M3)
def kKp3 (d : D) (ρ : Env) (Q : R → Prop) (y : Out) (z : Out) (M : Mem) : Prop := WM (kstoF y z d M) fun M3 => Q (.nx ρ M3)
def kNxM (ρ : Env) (Q : R → Prop) (M : Mem) : Prop := Q (.nx ρ M)
section
variable {a b c : E} {fr : A} {ρ : Env} {M : Mem} {Q : PO2} {QS : R → Prop} {f3 : F3} {x y z : Out} {d : D} {ds : List D} {kvs : List (D × D)}
theorem we_mt2 {T : String} : WE (eMt2 T f3 a b c) ρ M Q ↔ WE a ρ M (kMt2 T f3 b c ρ Q) := by
  unfold WE eMt2; rw [bex2]; refine exists_congr fun x => exists_congr fun y => and_congr_right fun _ => ?_
  rw [itn2]; unfold kMt2 WE; rw [bex2]; simp only [bex2]; exact Iff.rfl
theorem kMt2_eq {T : String} : kMt2 T f3 b c ρ Q x M ↔ isTyB T x M = true ∧ WE b ρ M (kDm2b f3 c ρ x Q) := Iff.rfl
theorem we_knew : WE eKnew ρ M Q ↔ Q (.o (.dct [])) M := sex2
theorem wk_some {P : List (D × D) → Prop} : WK (some kvs) P ↔ P kvs := ⟨fun ⟨_, e, h⟩ => by cases e; exact h, fun h => ⟨_, rfl, h⟩⟩
theorem we_kd : WE (eKd fr) ρ M Q ↔ WA fr ρ M (kKd Q) := by
  unfold WE WA eKd; rw [bex2]; refine exists_congr fun x => exists_congr fun y => and_congr_right fun _ => ?_
  unfold kKd
  constructor
  · rintro ⟨r, s, e, p⟩
    obtain ⟨kvs, e1, e2⟩ := bind_some e
    split at e2
    · rename_i h; cases e2; exact ⟨_, e1, h, p⟩
    · cases e2
  · rintro ⟨kvs, e1, h, p⟩
    exact ⟨_, _, by simp only at e1 ⊢; rw [e1, Option.bind_some, if_pos h], p⟩
theorem kKd_eq : kKd Q ds M ↔ WK (pairsK ds) (kKd2 Q M) := Iff.rfl
theorem kKd2_eq : kKd2 Q M kvs ↔ kvs.length ≤ 15 ∧ Q (.o (.dct kvs)) M := Iff.rfl
theorem ws_kput : WS (sKput a b c) ρ M QS ↔ WE a ρ M (kKp1 b c ρ QS) := by
  unfold WS WE sKput; rw [bex]; refine exists_congr fun x => exists_congr fun y => and_congr_right fun _ => ?_
  rw [bex]; unfold kKp1 WE; refine exists_congr fun x => exists_congr fun y => and_congr_right fun _ => ?_
  rw [bex]; refine exists_congr fun x => exists_congr fun y => and_congr_right fun _ => ?_
  rw [bexS]; unfold WM; refine exists_congr fun x => and_congr_right fun _ => sex1
theorem kKp1_v : kKp1 b c ρ QS (.v d) M ↔ WE b ρ M (kKp2 c d ρ QS) := Iff.rfl
theorem kKp1_o {o : Ob} : kKp1 b c ρ QS (.o o) M ↔ WE b ρ (M ++ [o]) (kKp2 c (.ref M.length) ρ QS) := Iff.rfl
theorem kKp2_eq : kKp2 c d ρ QS y M ↔ WE c ρ M (kKp3 d ρ QS y) := Iff.rfl
theorem kKp3_eq : kKp3 d ρ QS y z M ↔ WM (kstoF y z d M) (kNxM ρ QS) := Iff.rfl
theorem kNxM_eq : kNxM ρ QS M ↔ QS (.nx ρ M) := Iff.rfl
end
def wq := And.intro @we_mt2 (And.intro @kMt2_eq (And.intro @we_knew (And.intro @wk_some (And.intro @we_kd (And.intro @kKd_eq (And.intro @kKd2_eq (And.intro @ws_kput (And.intro @kKp1_v (And.intro @kKp1_o (And.intro @kKp2_eq (And.intro @kKp3_eq @kNxM_eq)))))))))))
end Q
namespace Q
open PySem L2
def kC34 (h : F2) (w : Out) (Q : PO2) (u : Out) (M : Mem) : Prop := WO (h w u M) Q
def kC33 (h : F2) (d : E) (ρ : Env) (w : Out) (Q : PO2) (z : Out) (M : Mem) : Prop := match z with | .v (.bl true) => WE d ρ M (kC34 h w Q) | .v (.bl false) => Q (.v (.bl false)) M | _ => False
def kC32 (g h : F2) (d : E) (ρ : Env) (y : Out) (Q : PO2) (w : Out) (M : Mem) : Prop := WO (g y w M) (kC33 h d ρ w Q)
def kC31 (g h : F2) (c d : E) (ρ : Env) (y : Out) (Q : PO2) (z : Out) (M : Mem) : Prop := match z with | .v (.bl true) => WE c ρ M (kC32 g h d ρ y Q) | .v (.bl false) => Q (.v (.bl false)) M | _ => False
def kC30 (f g h : F2) (c d : E) (ρ : Env) (x : Out) (Q : PO2) (y : Out) (M : Mem) : Prop := WO (f x y M) (kC31 g h c d ρ y Q)
def kC3 (f g h : F2) (b c d : E) (ρ : Env) (Q : PO2) (x : Out) (M : Mem) : Prop := WE b ρ M (kC30 f g h c d ρ x Q)
section
variable {a b c d : E} {ρ : Env} {M : Mem} {Q : PO2} {f g h : F2} {x y z w u : Out}
theorem we_chain3 : WE (eChain3 f g h a b c d) ρ M Q ↔ WE a ρ M (kC3 f g h b c d ρ Q) := by
  unfold WE eChain3; rw [bex2]; refine exists_congr fun x => exists_congr fun y => and_congr_right fun _ => ?_
  rw [bex2]; unfold kC3 WE; refine exists_congr fun x => exists_congr fun y => and_congr_right fun _ => ?_
  rw [bex2]; unfold kC30 WO; refine exists_congr fun x => exists_congr fun y => and_congr_right fun _ => ?_
  cases x with
  | o b => exact nex2
  | v dd => cases dd with
    | bl p =>
      cases p with
      | false => exact sex2
      | true =>
        simp only
        rw [bex2]; unfold kC31 WE; refine exists_congr fun x => exists_congr fun y => and_congr_right fun _ => ?_
        rw [bex2]; unfold kC32 WO; refine exists_congr fun x => exists_congr fun y => and_congr_right fun _ => ?_
        cases x with
        | o b => exact nex2
        | v dd => cases dd with
          | bl p =>
            cases p with
            | false => exact sex2
            | true =>
              simp only
              rw [bex2]; unfold kC33 WE; refine exists_congr fun x => exists_congr fun y => and_congr_right fun _ => ?_
              exact Iff.rfl
          | _ => exact nex2
    | _ => exact nex2
theorem kC3_eq : kC3 f g h b c d ρ Q x M ↔ WE b ρ M (kC30 f g h c d ρ x Q) := Iff.rfl
theorem kC30_eq : kC30 f g h c d ρ x Q y M ↔ WO (f x y M) (kC31 g h c d ρ y Q) := Iff.rfl
theorem kC31_t : kC31 g h c d ρ y Q (.v (.bl true)) M ↔ WE c ρ M (kC32 g h d ρ y Q) := Iff.rfl
theorem kC31_f : kC31 g h c d ρ y Q (.v (.bl false)) M ↔ Q (.v (.bl false)) M := Iff.rfl
theorem kC32_eq : kC32 g h d ρ y Q w M ↔ WO (g y w M) (kC33 h d ρ w Q) := Iff.rfl
theorem kC33_t : kC33 h d ρ w Q (.v (.bl true)) M ↔ WE d ρ M (kC34 h w Q) := Iff.rfl
theorem kC33_f : kC33 h d ρ w Q (.v (.bl false)) M ↔ Q (.v (.bl false)) M := Iff.rfl
theorem kC34_eq : kC34 h w Q u M ↔ WO (h w u M) Q := Iff.rfl
end
def wch := And.intro @we_chain3 (And.intro @kC3_eq (And.intro @kC30_eq (And.intro @kC31_t (And.intro @kC31_f (And.intro @kC32_eq (And.intro @kC33_t (And.intro @kC33_f @kC34_eq)))))))
end Q
/-! texts as lists of signs -/
namespace Q
open PySem L2
def txtS (cs : List Nat) : Str := ⟨cs.toArray⟩
theorem txt_len (cs : List Nat) : (txtS cs).length = cs.length := by simp [txtS, Str.length]
theorem txt_cps (cs : List Nat) : (txtS cs).cps.toList = cs := by simp [txtS]
theorem txt_of (z : Str) : z = txtS z.cps.toList := by cases z; simp [txtS]
theorem txt_inj {a b : List Nat} (h : txtS a = txtS b) : a = b := by
  have := congrArg (fun z : Str => z.cps.toList) h
  simpa [txtS] using this
theorem txt_app (a b : List Nat) : txtS a ++ txtS b = txtS (a ++ b) := by
  show Str.append _ _ = _
  simp [Str.append, txtS]
theorem txt_add {a b : List Nat} (h : a.length + b.length ≤ 90000) (M : Mem) : addF (.v (.str (txtS a))) (.v (.str (txtS b))) M = some (.v (.str (txtS (a ++ b))), M) := by
  have hf : fits ((txtS a).length + (txtS b).length) := fits_of (by rw [txt_len, txt_len]; omega)
  simp only [addF, if_pos hf, txt_app]
theorem txt_lenF {a : List Nat} (h : a.length ≤ 90000) (M : Mem) : lenF (.v (.str (txtS a))) M = some (.v (.int (a.length : Int)), M) := by
  have hf : fits (txtS a).length := fits_of (by rw [txt_len]; omega)
  simp only [lenF, if_pos hf]
  rw [txt_len]
theorem txt_signs (a : List Nat) : signs (txtS a) = a.map fun c => D.str (txtS [c]) := by
  unfold signs
  rw [txt_cps]; rfl
theorem txt_src {a : List Nat} (h : a.length ≤ 90000) (M : Mem) : srcOf (.v (.str (txtS a))) M = some ⟨a.map fun c => D.str (txtS [c]), []⟩ := by
  have hf : fits (txtS a).length := fits_of (by rw [txt_len]; omega)
  simp only [srcOf, if_pos hf, txt_signs]
theorem txt_ix {a : List Nat} (h : a.length ≤ 90000) {i : Nat} (hi : i < a.length) (M : Mem) : ixF (.v (.str (txtS a))) (.v (.int (i : Int))) M = some (.v (.str (txtS [a[i]])), M) := by
  have hf : fits (txtS a).length := fits_of (by rw [txt_len]; omega)
  have e : ixN a.length (i : Int) = some i := by unfold ixN; simp; omega
  simp only [ixF, if_pos hf, atI, txt_cps, e, Option.bind_some, List.getElem?_eq_getElem hi, Option.map_some]
  rfl
theorem txt_in (c : Nat) (a : List Nat) (M : Mem) : inF false (.v (.str (txtS [c]))) (.v (.str (txtS a))) M = some (.v (.bl (decide (c ∈ a))), M) := by
  have := PySem.StrLaws.found_one (txtS a) c
  rw [txt_cps] at this
  simp only [inF, Bool.false_eq_true, if_false]
  rw [← this]; rfl
theorem txt_cut (a : List Nat) (lo hi : Option Int) : cutS (txtS a) lo hi = txtS ((a.drop (HT.sIx a.length 0 lo)).take (HT.sIx a.length a.length hi - HT.sIx a.length 0 lo)) := by
  unfold cutS
  rw [txt_len, txt_cps]; rfl
theorem txt_to {a : List Nat} (h : a.length ≤ 90000) (k : Nat) (M : Mem) : slF (.v (.str (txtS a))) none (some (k : Int)) M = some (.v (.str (txtS (a.take k))), M) := by
  have hf : fits (txtS a).length := fits_of (by rw [txt_len]; omega)
  simp only [slF, if_pos hf]
  rw [txt_cut, HT.sIx_nat, HT.sIx_none, List.drop_zero, Nat.sub_zero]
  congr 4
  by_cases hk : k ≤ a.length
  · rw [Nat.min_eq_left hk]
  · rw [Nat.min_eq_right (by omega), List.take_of_length_le (Nat.le_refl _), List.take_of_length_le (by omega)]
theorem txt_from {a : List Nat} (h : a.length ≤ 90000) (k : Nat) (M : Mem) : slF (.v (.str (txtS a))) (some (k : Int)) none M = some (.v (.str (txtS (a.drop k))), M) := by
  have hf : fits (txtS a).length := fits_of (by rw [txt_len]; omega)
  simp only [slF, if_pos hf]
  rw [txt_cut, HT.sIx_nat, HT.sIx_none]
  congr 4
  by_cases hk : k ≤ a.length
  · rw [Nat.min_eq_left hk, List.take_of_length_le (by simp)]
  · rw [Nat.min_eq_right (by omega), List.drop_eq_nil_of_le (Nat.le_refl _), List.drop_eq_nil_of_le (by omega)]; simp
theorem foldl_app (g : List Nat) : ∀ (ps : List (List Nat)) (acc : List Nat), (ps.map List.toArray).foldl (fun acc p => acc ++ g.toArray ++ p) acc.toArray = (acc ++ ps.flatMap fun p => g ++ p).toArray
  | [], acc => by simp
  | p :: ps, acc => by
    rw [List.map_cons, List.foldl_cons, show acc.toArray ++ g.toArray ++ p.toArray = (acc ++ g ++ p).toArray by simp, foldl_app g ps]
    simp
theorem txt_mulv (a : List Nat) (n : Nat) : Txt.mul (txtS a) (n : Int) = txtS (List.replicate n a).flatten := by
  unfold Txt.mul
  split
  · have : n = 0 := by omega
    subst this; rfl
  · rename_i h
    split
    · rename_i h2
      rw [Bool.or_eq_true, beq_iff_eq, beq_iff_eq, txt_len] at h2
      rcases h2 with h2 | h2
      · have : n = 1 := by omega
        subst this; simp
      · have : a = [] := List.eq_nil_of_length_eq_zero h2
        subst this; simp
    · have key : ∀ (m : Nat) (acc : List Nat), (List.replicate m a.toArray).foldl (fun x y => x ++ y) acc.toArray = (acc ++ (List.replicate m a).flatten).toArray := by
        intro m
        induction m with
        | zero => intro acc; simp
        | succ m ih =>
          intro acc
          rw [List.replicate_succ, List.foldl_cons, show acc.toArray ++ a.toArray = (acc ++ a).toArray by simp, ih, List.replicate_succ, List.flatten_cons]
          simp
      have := key n []
      simp only [List.nil_append] at this
      rw [Int.toNat_natCast]
      show (⟨_⟩ : Str) = ⟨_⟩
      exact congrArg Str.mk this
theorem txt_mul {a : List Nat} {n : Nat} (h : a.length * n ≤ 90000) (hn : n ≤ 90000) (M : Mem) : mulF (.v (.str (txtS a))) (.v (.int (n : Int))) M = some (.v (.str (txtS (List.replicate n a).flatten)), M) := by
  have hf : i63 (n : Int) ∧ fits ((txtS a).length * (n : Int).toNat) := ⟨i63_of (by omega) (by omega), fits_of (by rw [txt_len, Int.toNat_natCast]; omega)⟩
  simp only [mulF, if_pos hf, txt_mulv]
def joinT (sep : List Nat) : List (List Nat) → List Nat
  | [] => []
  | p :: ps => p ++ ps.flatMap fun q => sep ++ q
theorem txt_joinv (sep : List Nat) (ps : List (List Nat)) : Txt.join (txtS sep) (ps.map txtS) = txtS (joinT sep ps) := by
  show Builtin.Str.glued _ _ = _
  unfold Builtin.Str.glued
  cases ps with
  | nil => rfl
  | cons p ps =>
    have := foldl_app sep ps p
    show (⟨_⟩ : Str) = ⟨_⟩
    refine congrArg Str.mk ?_
    rw [List.map_cons, List.drop_one, List.tail_cons, List.headD_cons]
    have e : (ps.map txtS).foldl (fun acc p => acc ++ (txtS sep).cps ++ p.cps) (txtS p).cps = (ps.map List.toArray).foldl (fun acc p => acc ++ sep.toArray ++ p) p.toArray := by
      rw [List.foldl_map, List.foldl_map]; rfl
    rw [e, this]; rfl
theorem txt_join {sep : List Nat} {ps : List (List Nat)} {x : Out} {M : Mem} (hx : seqOf x M = some (ps.map fun p => D.str (txtS p))) (h : (ps.map List.length).sum + ps.length * sep.length ≤ 90000) : joinF (.v (.str (txtS sep))) x M = some (.v (.str (txtS (joinT sep ps))), M) := by
  have e : (ps.map fun p => D.str (txtS p)) = (ps.map txtS).map D.str := by simp [Function.comp_def]
  have hs : ((ps.map txtS).map (·.length)).sum = (ps.map List.length).sum := by
    rw [List.map_map]; congr 1
  have hf : fits (((ps.map txtS).map (·.length)).sum + (ps.map txtS).length * (txtS sep).length) := fits_of (by rw [hs, txt_len, List.length_map]; omega)
  simp only [joinF, hx, Option.bind_some, e, strsOf_map, if_pos hf, txt_joinv]
end Q
/-! text.split(sign), and statements that are not reached -/
namespace Q
open PySem L2
def rSplitS : V → List V → Hp → VK → Prop := fun x xs H Q => ∃ a b, x = .str a ∧ xs = [.str b] ∧ (b.length == 0) = false ∧ a.length + 2 ≤ sizeLine ∧ rNewStrs (Txt.split a b) H Q
noncomputable def splF (x : Out) (y : Out) (m : Mem) : Option (Out × Mem) := match x, y with
  | .v (.str a), .v (.str b) => if (b.length == 0) = false ∧ fits (a.length + 2) then some (.o (.lst ((Txt.split a b).map D.str)), m) else none
  | _, _ => none
theorem rvs_strs {K : PySem.W.Frag} {ι : List Addr} {H : Hp} : ∀ ys : List Str, RVs K ι H (ys.map D.str) (ys.map V.str)
  | [] => .nil
  | y :: ys => .cons (RV.str _) (rvs_strs ys)
theorem splU {K : PySem.W.Frag} : R2S K (fun v u H Q => rSplitS v [u] H Q) splF := by
  intro ι H H0 m x y z vx vy m' Q rm bd rx ry hf k
  unfold splF at hf
  split at hf
  · split at hf
    · rename_i hl; cases hf; cases rx; cases ry
      exact ⟨_, _, rfl, rfl, hl.1, hl.2, fun p hp => k _ ι _ (Le.newAt hp) (rm.newAt hp) (new_lst rm hp (rvs_strs _))⟩
    · cases hf
  · cases hf
section
variable {X : Cx} {e : Expr} {fa fb : E}
theorem spl_ (h0 : PE X e (tBM X.K "str" rSplitS (tE X.K fa) (tCons (tE X.K fb) tNil))) : SE X e (eMt1 "str" splF fa fb) := se_mt1 h0 splU.n
end
def sNone (ρ : Env) (m : Mem) : Option R := none
theorem ss_non {X : Cx} {st : Stmt} : SS X st sNone := ⟨fun pins s σ H D I h => by
  obtain ⟨ι, ρ, m, r, rs, rm, hf, _⟩ := h
  cases hf⟩
/-! the plain law of split by one sign -/
def splitL (c : Nat) : List Nat → List (List Nat)
  | [] => [[]]
  | x :: xs => if x = c then [] :: splitL c xs else match splitL c xs with
    | [] => [[x]]
    | p :: ps => (x :: p) :: ps
theorem splitL_ne (c : Nat) : ∀ a, splitL c a ≠ []
  | [] => by simp [splitL]
  | x :: xs => by
    unfold splitL
    split
    · simp
    · split <;> simp
theorem splitL_free (c : Nat) : ∀ a, ∀ p ∈ splitL c a, c ∉ p
  | [] => by simp [splitL]
  | x :: xs => by
    unfold splitL
    split
    · intro p hp
      rcases List.mem_cons.mp hp with rfl | hp
      · simp
      · exact splitL_free c xs p hp
    · rename_i hx
      split
      · intro p hp; simp at hp; subst hp; simp; exact fun z => hx z.symm
      · rename_i q qs e
        intro p hp
        have := splitL_free c xs
        rw [e] at this
        rcases List.mem_cons.mp hp with rfl | hp
        · intro z
          rcases List.mem_cons.mp z with z | z
          · exact hx z.symm
          · exact this q List.mem_cons_self z
        · exact this p (List.mem_cons_of_mem _ hp)
theorem splitL_join (c : Nat) : ∀ a, joinT [c] (splitL c a) = a
  | [] => rfl
  | x :: xs => by
    have ih := splitL_join c xs
    unfold splitL
    split
    · rename_i hx
      subst hx
      cases h : splitL x xs with
      | nil => exact absurd h (splitL_ne x xs)
      | cons p ps =>
        rw [h] at ih
        show [] ++ (p :: ps).flatMap (fun q => [x] ++ q) = x :: xs
        rw [List.nil_append, List.flatMap_cons, ← ih]
        rfl
    · cases h : splitL c xs with
      | nil => exact absurd h (splitL_ne c xs)
      | cons p ps =>
        rw [h] at ih
        show (x :: p) ++ ps.flatMap (fun q => [c] ++ q) = x :: xs
        rw [← ih]; rfl
theorem join_inj {c : Nat} : ∀ {ps qs : List (List Nat)}, ps ≠ [] → qs ≠ [] → (∀ p ∈ ps, c ∉ p) → (∀ q ∈ qs, c ∉ q) → joinT [c] ps = joinT [c] qs → ps = qs := by
  have key : ∀ (ps qs : List (List Nat)) (p q : List Nat), (∀ r ∈ p :: ps, c ∉ r) → (∀ r ∈ q :: qs, c ∉ r) → joinT [c] (p :: ps) = joinT [c] (q :: qs) → p :: ps = q :: qs := by
    intro ps
    induction ps with
    | nil =>
      intro qs p q hp hq e
      cases qs with
      | nil => simpa [joinT] using e
      | cons q2 qs =>
        exfalso
        have : c ∈ p := by
          have e2 : p = q ++ ([c] ++ q2 ++ qs.flatMap fun r => [c] ++ r) := by simpa [joinT] using e
          rw [e2]; simp
        exact hp p List.mem_cons_self this
    | cons p2 ps ih =>
      intro qs p q hp hq e
      cases qs with
      | nil =>
        exfalso
        have : c ∈ q := by
          have e2 : p ++ ([c] ++ p2 ++ ps.flatMap fun r => [c] ++ r) = q := by simpa [joinT] using e
          rw [← e2]; simp
        exact hq q List.mem_cons_self this
      | cons q2 qs =>
        have e2 : p ++ c :: joinT [c] (p2 :: ps) = q ++ c :: joinT [c] (q2 :: qs) := by simpa [joinT] using e
        have hpc := hp p List.mem_cons_self
        have hqc := hq q List.mem_cons_self
        have split : ∀ (a b x y : List Nat), c ∉ a → c ∉ b → a ++ c :: x = b ++ c :: y → a = b ∧ x = y := by
          intro a
          induction a with
          | nil =>
            intro b x y _ hb h
            cases b with
            | nil => simpa using h
            | cons b0 b => simp at h; exact absurd (h.1 ▸ List.mem_cons_self) hb
          | cons a0 a ih2 =>
            intro b x y ha hb h
            cases b with
            | nil => simp at h; exact absurd (h.1 ▸ List.mem_cons_self) ha
            | cons b0 b =>
              simp only [List.cons_append, List.cons.injEq] at h
              have := ih2 b x y (fun z => ha (List.mem_cons_of_mem _ z)) (fun z => hb (List.mem_cons_of_mem _ z)) h.2
              exact ⟨by rw [h.1, this.1], this.2⟩
        obtain ⟨e3, e4⟩ := split p q _ _ hpc hqc e2
        rw [e3, ih qs p2 q2 (fun r hr => hp r (List.mem_cons_of_mem _ hr)) (fun r hr => hq r (List.mem_cons_of_mem _ hr)) e4]
  intro ps qs h1 h2 h3 h4 e
  cases ps with
  | nil => exact absurd rfl h1
  | cons p ps =>
    cases qs with
    | nil => exact absurd rfl h2
    | cons q qs => exact key ps qs p q h3 h4 e
theorem splitL_of {c : Nat} {ps : List (List Nat)} (h : ps ≠ []) (hf : ∀ p ∈ ps, c ∉ p) : splitL c (joinT [c] ps) = ps := join_inj (splitL_ne _ _) h (splitL_free _ _) hf (splitL_join _ _)
theorem str_join (sep : List Nat) : ∀ ps : List (List Nat), Str.join (txtS sep) (ps.map txtS) = txtS (joinT sep ps)
  | [] => rfl
  | [p] => by simp [Str.join, joinT]
  | p :: q :: ps => by
    have ih := str_join sep (q :: ps)
    show txtS p ++ txtS sep ++ Str.join (txtS sep) (txtS q :: ps.map txtS) = _
    rw [show txtS q :: ps.map txtS = (q :: ps).map txtS from rfl, ih, txt_app, txt_app]
    congr 1
    simp [joinT]
theorem txt_split (c : Nat) (a : List Nat) : Txt.split (txtS a) (txtS [c]) = (splitL c a).map txtS := by
  obtain ⟨ps, hps⟩ : ∃ ps : List (List Nat), Txt.split (txtS a) (txtS [c]) = ps.map txtS := ⟨(Txt.split (txtS a) (txtS [c])).map fun z => z.cps.toList, by rw [List.map_map]; exact (List.map_id _).symm.trans (List.map_congr_left fun z _ => txt_of z)⟩
  have h1 := PySem.StrLaws.join_split (txtS a) (txtS [c])
  rw [hps, str_join] at h1
  have h2 := txt_inj h1
  have h3 : ∀ p ∈ ps, c ∉ p := fun p hp => by
    have := PySem.StrLaws.split_free (txtS a) c (txtS p) (by
      show txtS p ∈ Txt.split (txtS a) (txtS [c])
      rw [hps]; exact List.mem_map.mpr ⟨p, hp, rfl⟩)
    rwa [txt_cps] at this
  have h4 : ps ≠ [] := by
    intro z
    subst z
    have : Txt.split (txtS a) (txtS [c]) ≠ [] := by
      unfold Txt.split
      split
      · simp
      · split
        · simp
        · unfold Builtin.Str.partsBetween
          simp
    exact this hps
  rw [hps]
  congr 1
  rw [← h2]
  exact (splitL_of h4 h3).symm
theorem txt_splF {c : Nat} {a : List Nat} (h : a.length ≤ 90000) (M : Mem) : splF (.v (.str (txtS a))) (.v (.str (txtS [c]))) M = some (.o (.lst ((splitL c a).map fun p => D.str (txtS p))), M) := by
  have hc : ((txtS [c]).length == 0) = false ∧ fits ((txtS a).length + 2) := ⟨by rw [txt_len]; rfl, fits_of (by rw [txt_len]; omega)⟩
  simp only [splF, if_pos hc, txt_split, List.map_map]
  rfl
end Q
/-! x == [] of a list of anything -/
namespace Q
open PySem PySem.Spec L2
def rEqE (K : PySem.W.Frag) : R2 := fun x y H Q => ∃ a b xs, x = .ref a ∧ y = .ref b ∧ H a = some (.lst xs) ∧ H b = some (.lst []) ∧ Q (.bl xs.isEmpty) H
theorem op_eqE {X : Cx} (hu : X.A.units + 64 < cLine) : OpR X (compareOp .Eq) (rEqE X.K) := by
  intro pins s σ H x y v u Q I rx ry h
  obtain ⟨a, b, xs, rfl, rfl, ha, hb, q⟩ := h
  obtain rfl : v = Value.ref a := rx
  obtain rfl : u = Value.ref b := ry
  obtain ⟨its, rv, p, hz⟩ := I.list (a := a) (xs := xs) (.inl (.inl ha))
  obtain ⟨its2, rv2, p2, hz2⟩ := I.list (a := b) (xs := []) (.inl (.inl hb))
  have hl := rv.length
  cases rv2
  have hu2 : X.A.units < cLine := by omega
  cases xs with
  | nil =>
    cases rv
    have := SeqAt.RcAt.lists (e := fun _ => true) p.isList p2.isList rfl hu2 (fun j h1 _ => absurd h1 (by simp))
    exact this _ _ _ _ ⟨.bl true, H, I, rfl, q⟩
  | cons x xs =>
    have := SeqAt.RcAt.lists_lengths (A := X.A) p.isList p2.isList (by simp; intro z; rw [z] at hl; simp at hl) hu2
    exact this _ _ _ _ ⟨.bl false, H, I, rfl, q⟩
def eqEF (x : Out) (y : Out) (m : Mem) : Option (Out × Mem) := match lstOf y m with
  | some [] => (lstOf x m).bind fun xs => some (.v (.bl xs.isEmpty), m)
  | _ => none
theorem eqEU {K : PySem.W.Frag} : R2S K (rEqE K) eqEF := by
  intro ι H H0 m x y z vx vy m' Q rm bd rx ry hf k
  unfold eqEF at hf
  split at hf
  · rename_i hy
    obtain ⟨xs, hx, hf⟩ := bind_some hf
    cases hf
    obtain ⟨a, vs, rfl, ha, r1⟩ := lst_at rm rx hx
    obtain ⟨b, us, rfl, hb, r2⟩ := lst_at rm ry hy
    cases r2
    have e : xs.isEmpty = vs.isEmpty := by cases r1 <;> rfl
    exact ⟨a, b, vs, rfl, rfl, ha, hb, by rw [← e]; exact k _ ι H (Le.refl _ _) rm (RV.bl _)⟩
  · cases hf
section
variable {X : Cx} {a b : Expr} {fa fb : E} {pos : Pos} {k : Nat}
theorem eqE_ (hr : Room k X.A) (ha : SE X a fa) (hb : SE X b fb) : SE X (.Compare a [.Eq] [b] pos) (eBin eqEF fa fb) := se_cmp (op_eqE hr.units) eqEU ha hb (nomark _)
theorem t_eqE (hr : Room k X.A) (ha : SE X a fa) (hb : SE X b fb) : ST X (.Compare a [.Eq] [b] pos) (bOf (eBin eqEF fa fb)) := st_cmp (op_eqE hr.units) eqEU ha hb (nomark _)
end
end Q
/-! exceptions of own classes over ValueError -/
namespace L2
open PySem PySem.Spec PyProof.Rows
/-- D has ValueError's __init__, read off the class -/
structure BaseI (K : PySem.W.Frag) (D : Addr) : Prop where
  rd : PySem.W.readsIn K D (.type "type") = true
  ga : PySem.W.specialIn K (.ref D) "__getattribute__" = some (some (.builtin "type.__getattribute__"))
  at_ : PySem.W.findCls K (.ref D) (.type "type") "__init__" = some (.val (.builtin "ValueError.__init__"))
section
variable {X : Cx} {o e : Expr} {es : List Expr} {to te : TE} {ta : TA} {f : Str} {p p' p1 p2 pos : Pos}
theorem pe_cinit {x : Str} {D : Addr} {pl : Sem Bool} (hg : Gl X x) (hm : X.mg x = some (.ref D)) (B : BaseI X.K D) (ha : PA X (e :: es) ta)
    (hdb : (x == ("__debug__" : Str)) = false := by decide)
    (hc : eval (.Call (.Attribute (.Name x p1) "__init__" p2) (e :: es) [] pos) X.env = (do
      let ov ← eval (.Name x p1) X.env
      standAt p2.atName
      let (f, first) ← holding [ov] (getMethod ov "__init__" pl)
      callWith pos f first (backTo pos (starEach (e :: es) X.env)) (backToKw pos (keywordEach [] X.env))) := by rfl)
    (he : starEach (e :: es) X.env = (false, eval e X.env) :: starEach es X.env := by rfl) (hpl : (backTo pos (starEach es X.env)).any (·.1) = false := by rfl) :
    PE X (.Call (.Attribute (.Name x p1) "__init__" p2) (e :: es) [] pos) (tVeI X.K ta) := by
  refine ⟨fun pins s σ H Q I h => ?_⟩
  refine PySem.W.methodCall_KW (ld_glob I hg hm ?_ hdb) hc
  refine PySem.W.method_cls I.kIn B.ga (PySem.W.cls_value I.kIn B.rd B.at_ (by decide +kernel) ?_)
  show wpAny _ _ (callWith pos (Value.builtin "ValueError.__init__") [] (backTo pos (starEach (e :: es) X.env)) []) _ _ _
  refine PyProof.Rows.callWith_method1 (thn (ha.run pos pins _ σ H _ (I.tok _) h) fun us s1 ⟨vs, H1, I1, r1, a, C, ws, ev, hl, T, ea, q⟩ => ?_) he hpl
  subst ev
  cases r1 with
  | @cons _ u0 _ ur ra rw' =>
    obtain rfl : u0 = Value.ref a := ra
    have hlen : ur.length ≤ sizeLine := by
      rw [← Paired.length rw', sizeLine_eq]
      omega
    exact oinit_ok T I1 ea hlen fun s' J => ⟨.non, H1, J, rfl, q⟩
/-- C() of a class whose __init__ lays no field -/
def tMkO0 (C : Addr) (sp : Sp) : St → Hp → XK → Prop := fun σ H Q => ∀ a, H a = none → sp [.ref a] (upd H a (exo a C none))
  (fun v H2 => v = .non ∧ H2 a = some (exo a C none) ∧ Q (.ref C) none (del H2 a)) (fun _ _ _ => False)
theorem mk_endN {pins : List (Addr × Obj)} {σ : St} {H1 H2 : Hp} {Q : XK} {hp hp2 h2 : Heap} {g1 g2 : Array GenState} {d1 d2 : Drawn} {t1 t2 : Nat} {os1 os2 : OsState} {a C : Addr} (T : Raises X (.ref C)) (I1 : Inv X pins σ H1 ⟨hp, g1, d1, t1, os1⟩)
    (ha : hp.objs.size ≤ a) (k : ∀ b o, hp.get? b = some o → hp2.get? b = some o) (un : Un (frs X.stack) [] (upd H1 a (exo a C none)) H2 hp2 h2) (hok : HOk X.prog X.w H2 h2) (ho : os2 = os1) (hb : AllBare g2)
    (ea : H2 a = some (exo a C none)) (q : Q (.ref C) none (del H2 a)) : MkP X pins σ Q (.ref a) ⟨h2, g2, d2, t2, os2⟩ := by
  obtain ⟨t0, hoe⟩ := exo_at hok ea
  have hn : H1 a = none := I1.hok.fresh ha
  obtain ⟨G, g1', g2'⟩ := restrict h2 fun b => decide (b ≠ a)
  have gk : ∀ b, b ≠ a → G.get? b = h2.get? b := fun b hb => g1' b (decide_eq_true hb)
  have ge : G.get? a = none := g2' a (by simp)
  have nha : ∀ {b : Addr} {o : Obj}, hp.get? b = some o → b ≠ a := fun {b o} z => Nat.ne_of_lt (Nat.lt_of_lt_of_le (Heap.lt_size z) ha)
  have up : ∀ {b : Addr}, b ≠ a → H1 b = none → upd H1 a (exo a C none) b = none := fun {b} hb n => by rw [upd_ne hb]; exact n
  have U : Un (frs X.stack) [] H1 (del H2 a) hp G := {
    keep := fun b o z n hf hx => by
      rw [gk b (nha z)]
      exact un.keep b o (k b o z) (up (nha z) n) hf hx
    slot := fun b o z n hf hx => by
      rw [gk b (nha z)]
      exact un.slot b o (k b o z) (up (nha z) n) hf hx
    free := fun b o z n hx => by
      rw [del_ne (nha z)]
      exact un.free b o (k b o z) (up (nha z) n) hx
    there := fun b o z hx => by
      rw [gk b (nha z)]
      exact un.there b o (k b o z) hx
    tups := fun b xs z => by
      rw [del_ne (ne_of_none z hn)]
      exact un.tups b xs (by rw [upd_ne (ne_of_none z hn)]; exact z)
    frzs := fun b o v z => by
      rw [del_ne (ne_of_none z hn)]
      exact un.frzs b o v (by rw [upd_ne (ne_of_none z hn)]; exact z)
    tbls := fun b ps z => by
      rw [del_ne (ne_of_none z hn)]
      exact un.tbls b ps (by rw [upd_ne (ne_of_none z hn)]; exact z) }
  have hok3 : HOk X.prog X.w (del H2 a) G := fun b o z => by
    have hba : b ≠ a := fun e => by
      rw [e, del_same] at z
      cases z
    rw [del_ne hba] at z
    have noa : ∀ {c : Addr}, H2 c = some (.own b) → c ≠ a := fun {c} hc => at_ne ea hc exo_own
    exact (hok b o z).stay (fun c v hc y => by
        have hca : c ≠ a := by
          rcases hc with hc | hc
          · rw [hc]
            exact hba
          · exact noa hc
        rw [gk c hca]
        exact y)
      (fun c hc => by rw [del_ne (noa hc)]; exact hc) (fun c xs hc => by rw [del_ne (at_ne ea hc exo_tup)]; exact hc)
  have J : Inv X pins σ (del H2 a) ⟨G, g2, d2, t2, os2⟩ := I1.call' (ch := []) ho U hok3 hb (fun b z => absurd z (by simp))
  refine ⟨a, _, _, ⟨G, g2, d2, t2, os2⟩, _, .ref C, none, rfl, J, fun b o z => ?_, ge, hoe, ⟨rfl, rfl⟩, rfl, rfl, del_same, rfl, hb, T, q⟩
  by_cases hba : b = a
  · rw [hba, ge] at z
    cases z
  · exact (gk b hba).symm.trans z
theorem pmk_oex0 {CX : CXT} {x : Str} {C fI : Addr} {k : Nat} {fd : FuncData} {ps : List Str} {sp : Sp} (T : OexC X.K C) (iC : PySem.W.findIn X.K (.ref C) "__init__" = some (some (.ref fI))) (tI : PySem.W.typeIn X.K (.ref fI) = some (.type "function"))
    (F1 : FnOk X.prog X.w X.K X.mg X.base CX k fI fd ps sp) (hr : Room (k + 1) X.A) (hb : Binds X.K fd ps []) (hx : Passes CX X (fun _ _ _ => False)) (hg : Gl X x) (hm : X.mg x = some (.ref C))
    (hdb : (x == ("__debug__" : Str)) = false := by decide) :
    PMk X (.Call (.Name x p) [] [] pos) (tMkO0 C sp) := by
  intro pins s σ H Q I q1
  obtain ⟨nm, q, N, bs, bm, sn, sub, ab, col, dd, k0, k1, k2, k3, k5, hC, hbm⟩ := T.cls
  refine wpAny_Call_Name_kw (ld_glob I hg hm ?_ hdb)
  refine PySem.W.callWith_K0 I.kIn T.kC ?_
  show wpAny _ _ (call (.ref C) []) _ _ _
  obtain ⟨hp, g, dr, tk, os⟩ := s
  have hsz : hp.objs.size ≤ hp.objs.size + 1 := Nat.le_succ _
  have hn : H (hp.objs.size + 1) = none := I.hok.fresh hsz
  have hq := q1 (hp.objs.size + 1) hn
  have kk : ∀ b o, hp.get? b = some o → ((hp.push (PySem.W.kdv_tup [])).push (PySem.HandSPX.excO C hp.objs.size)).get? b = some o := fun b o e => Heap.get?_push_of_some _ (Heap.get?_push_of_some _ e)
  have hget : ((hp.push (PySem.W.kdv_tup [])).push (PySem.HandSPX.excO C hp.objs.size)).get? (hp.objs.size + 1) = some (PySem.HandSPX.excO C hp.objs.size) := by heap_get
  have I2 : Inv X pins σ (upd H (hp.objs.size + 1) (exo (hp.objs.size + 1) C none)) ⟨(hp.push (PySem.W.kdv_tup [])).push (PySem.HandSPX.excO C hp.objs.size), g, dr, tk, os⟩ :=
    I.laid (t' := tk) (a := hp.objs.size + 1) (o := exo (hp.objs.size + 1) C none) (h' := (hp.push (PySem.W.kdv_tup [])).push (PySem.HandSPX.excO C hp.objs.size)) kk hsz (exo_ok hget)
  have r2 : Vals [V.ref (hp.objs.size + 1)] [Value.ref (hp.objs.size + 1)] := .cons rfl .nil
  have hl : ([Value.ref (hp.objs.size + 1)] ++ []).length = ps.length := by
    have e := r2.length
    rw [F1.len _ _ _ _ hq] at e
    exact e.symm
  refine wpAny_call (PySem.HandSPX.call_own F.excBase_ValueError (fun Y => PySem.HandSPX.refsVE_contains Y bm hbm) (I.kIn _ _ hC) (PySem.W.looks_findIn I.kIn iC) (fun self => PySem.W.bind_fn I.kIn self tI) (by simp [sizeLine_eq])
    (codeAny_mono (F1.run _ X.stack _ _ ⟨[Value.ref (hp.objs.size + 1)], []⟩ [Value.ref (hp.objs.size + 1)] _ _ (fun _ _ _ => False) (hr.make C [] []) (I2.env0.make C [] []) (hb _ [Value.ref (hp.objs.size + 1)] I2.kIn hl) r2 hq) fun r s' hq' => ?_))
  cases r with
  | error er => exact hx pins σ _ _ er s' I2 hq'
  | ok fl =>
    cases fl with
    | ret u =>
      obtain ⟨v, H2, os2, bare2, un2, hok2, rv, ev, ea, q2⟩ := hq'
      subst ev
      obtain ⟨h2, g2, d2, t2, os'⟩ := s'
      exact ⟨rv, mk_endN (raises_own T.exC T.tyC) I hsz kk un2 hok2 os2 bare2 ea q2⟩
    | next => exact False.elim hq'
    | brk => exact False.elim hq'
    | cont => exact False.elim hq'
end
end L2
/-! statements and defs that may raise -/
namespace Q
open PySem L2
/-- an exception: the name of its class, its fields, the later ones first -/
structure Xd where
  nm : Str
  fs : List (Str × D)
inductive Rx where
  | ok (r : R)
  | er (x : Xd) (ρ : Env) (m : Mem)
abbrev Sx := Env → Mem → Option Rx
def XdIs (K : PySem.W.Frag) (mg : Str → Option Value) (ι : List Addr) (H : Hp) (x : Xd) (cls : Value) (d : Option Addr) : Prop :=
  ∃ C, cls = .ref C ∧ mg x.nm = some (.ref C) ∧ match d with
    | none => x.fs = []
    | some dx => ∃ fs : List (Str × V), H dx = some (.xd fs) ∧ Paired (fun (p : Str × D) (q : Str × V) => p.1 = q.1 ∧ RV K ι H p.2 q.2) x.fs fs
def PRx (K : PySem.W.Frag) (mg : Str → Option Value) (ι : List Addr) (H : Hp) (D : Ends) (W : WX) : Rx → Prop
  | .ok r => PR K ι H D r
  | .er x ρ m => ∀ σ ι' H' cls d, Le ι H ι' H' → RS K ι' H' σ ρ → RM K ι' H' m → XdIs K mg ι' H' x cls d → W cls d σ H'
def tSx (K : PySem.W.Frag) (mg : Str → Option Value) (W : WX) (f : Sx) : TS := fun D σ H => ∃ ι ρ m r, RS K ι H σ ρ ∧ RM K ι H m ∧ f ρ m = some r ∧ PRx K mg ι H D W r
abbrev SSx (X : Cx) (W : WX) (st : Stmt) (f : Sx) : Prop := PS X st (tSx X.K X.mg W f)
abbrev SSxs (X : Cx) (W : WX) (st : List Stmt) (f : Sx) : Prop := PSs X st (tSx X.K X.mg W f)
theorem PRx.from {K : PySem.W.Frag} {mg : Str → Option Value} {ι ι1 : List Addr} {H H1 : Hp} {m : Mem} {D : Ends} {W : WX} (p : Le ι H ι1 H1) (rm : RM K ι1 H1 m) {r : Rx} (h : PRx K mg ι H D W r) : PRx K mg ι1 H1 D W r := by
  cases r with
  | ok r => exact PR.from p rm h
  | er x ρ m' => exact fun σ ι' H' cls d q a b c => h σ ι' H' cls d (p.tr rm q) a b c
def xL (f : S) : Sx := fun ρ m => (f ρ m).map .ok
@[simp] def xSeq (a b : Sx) (ρ : Env) (m : Mem) : Option Rx := (a ρ m).bind fun r => match r with | .ok (.nx ρ' m') => b ρ' m' | r => some r
@[simp] def xIf (c : B) (a b : Sx) (ρ : Env) (m : Mem) : Option Rx := (c ρ m).bind fun x => match x.1 with | true => a ρ x.2 | false => b ρ x.2
open Classical in
noncomputable def forX (g : G) (body : Sx) (lv : List (Nat × Ob)) : List D → Env → Mem → Option Rx
  | [], ρ, m => if chk lv m then some (.ok (.nx ρ m)) else none
  | x :: xs, ρ, m => if chk lv m then (g x ρ m).bind fun y => (body y.1 y.2).bind fun r => match r with
      | .ok (.nx ρ' m') => forX g body lv xs ρ' m'
      | .ok (.ct ρ' m') => forX g body lv xs ρ' m'
      | .ok (.bk ρ' m') => some (.ok (.nx ρ' m'))
      | .ok (.rt r m') => some (.ok (.rt r m'))
      | .er x ρ' m' => some (.er x ρ' m')
    else none
noncomputable def xFor (it : I) (g : G) (body : Sx) : Sx := fun ρ m => (it ρ m).bind fun s => forX g body s.1.live s.1.items ρ s.2
/-- raise C() -/
def xRz0 (nm : Str) : Sx := fun ρ m => some (.er ⟨nm, []⟩ ρ m)
/-- raise C(..), its __init__ laying these fields -/
def xRz (nm : Str) (ns : List Str) (fr : A) : Sx := fun ρ m => (fr ρ m).bind fun x => if x.1.length = ns.length then some (.er ⟨nm, (ns.zip x.1).reverse⟩ ρ x.2) else none
inductive Rz where
  | ok (r : Out)
  | er (x : Xd)
abbrev FnX := List D → Mem → Option (Rz × Mem)
abbrev Ex := Env → Mem → Option (Rz × Mem)
def tEx (K : PySem.W.Frag) (mg : Str → Option Value) (W : WX) (f : Ex) : TE := fun σ H Q => ∃ ι ρ m z m', RS K ι H σ ρ ∧ RM K ι H m ∧ f ρ m = some (z, m') ∧ match z with
  | .ok r => ∀ v ι' H', Le ι H ι' H' → RM K ι' H' m' → RO K H ι' H' r v → Bnd K H' → Q v H'
  | .er x => ∀ cls d ι' H', Le ι H ι' H' → RM K ι' H' m' → XdIs K mg ι' H' x cls d → W cls d σ H'
@[simp] def eCallX (F : FnX) (fr : A) (ρ : Env) (m : Mem) : Option (Rz × Mem) := (fr ρ m).bind fun x => F x.1 x.2
@[simp] def xPut (e : Ex) (g : G) (ρ : Env) (m : Mem) : Option Rx := (e ρ m).bind fun x => match x.1 with
  | .ok r => (g (val r x.2).1 ρ (val r x.2).2).bind fun y => some (.ok (.nx y.1 y.2))
  | .er z => some (.er z ρ x.2)
@[simp] def xSet (i : Nat) (e : Ex) (ρ : Env) (m : Mem) : Option Rx := (e ρ m).bind fun x => match x.1 with
  | .ok r => some (.ok (.nx (ρ.set i (some (val r x.2).1)) (val r x.2).2))
  | .er z => some (.er z ρ x.2)
@[simp] def xDo (e : Ex) (ρ : Env) (m : Mem) : Option Rx := (e ρ m).bind fun x => match x.1 with
  | .ok _ => some (.ok (.nx ρ x.2))
  | .er z => some (.er z ρ x.2)
section
variable {X : Cx} {W : WX} {e : Expr} {pos : Pos} {st : Stmt} {sts : List Stmt} {f : S} {s1 s2 : Sx} {ca : B} {g : G} {fx : Ex}
theorem sx_lift (h : SS X st f) : SSx X W st (xL f) := ps_imp h fun D σ H ⟨ι, ρ, m, r, rs, rm, hf, k⟩ => by
  obtain ⟨r', h1, rfl⟩ := Option.map_eq_some_iff.mp hf
  exact ⟨ι, ρ, m, r', rs, rm, h1, k⟩
theorem sxs_lift (h : SSs X sts f) : SSxs X W sts (xL f) := pss_imp h fun D σ H ⟨ι, ρ, m, r, rs, rm, hf, k⟩ => by
  obtain ⟨r', h1, rfl⟩ := Option.map_eq_some_iff.mp hf
  exact ⟨ι, ρ, m, r', rs, rm, h1, k⟩
theorem sx_one (h : SSx X W st s1) : SSxs X W [st] s1 := pss_one h
theorem sx_cons (h1 : SSx X W st s1) (h2 : SSxs X W sts s2) : SSxs X W (st :: sts) (xSeq s1 s2) := pss_imp (pss_cons h1 h2) fun D σ H ⟨ι, ρ, m, r, rs, rm, hf, k⟩ => by
  obtain ⟨x, h3, hf⟩ := bind_some hf
  refine ⟨ι, ρ, m, x, rs, rm, h3, ?_⟩
  cases x with
  | ok x =>
    cases x with
    | nx ρ' m' => exact fun σ1 ι1 H1 l1 rs1 rm1 => ⟨ι1, ρ', m', r, rs1, rm1, hf, k.from l1 rm1⟩
    | rt v m' => cases hf; exact k
    | bk ρ' m' => cases hf; exact k
    | ct ρ' m' => cases hf; exact k
  | er x ρ' m' => cases hf; exact k
theorem sx_if {c : Expr} {pa pb : List Stmt} (hc : ST X c ca) (h1 : SSxs X W pa s1) (h2 : SSxs X W pb s2) : SSx X W (.If c pa pb pos) (xIf ca s1 s2) := ps_imp (ps_if hc h1 h2) fun D σ H ⟨ι, ρ, m, r, rs, rm, hf, k⟩ => by
  obtain ⟨x, h3, hf⟩ := bind_some hf
  refine ⟨ι, ρ, m, x.1, x.2, rs, rm, h3, fun ι1 H1 l1 rm1 bd1 => ?_⟩
  split at hf
  · rename_i e1; rw [e1, if_pos rfl]
    exact ⟨ι1, ρ, x.2, r, rs.mono l1, rm1, hf, k.from l1 rm1⟩
  · rename_i e1; rw [e1, if_neg Bool.false_ne_true]
    exact ⟨ι1, ρ, x.2, r, rs.mono l1, rm1, hf, k.from l1 rm1⟩
theorem sx_for {it : I} (h0 : PS X st (tFor (tI X.K it) (tG X.K g) (tSx X.K X.mg W s1))) : SSx X W st (xFor it g s1) := ps_imp h0 fun D σ H ⟨ι, ρ, m, r, rs, rm, hf, k⟩ => by
  obtain ⟨s, h3, hf⟩ := bind_some hf
  refine ⟨ι, ρ, m, s.1, s.2, rs, rm, h3, fun J ι0 H0 l0 rm0 wk bd hsz => ?_⟩
  refine ⟨fun i n σ1 H1 => ∃ ι1 ρ1 m1, n = s.1.items.length - i ∧ Le ι0 H0 ι1 H1 ∧ RS X.K ι1 H1 σ1 ρ1 ∧ RM X.K ι1 H1 m1 ∧ forX g s1 s.1.live (s.1.items.drop i) ρ1 m1 = some r, ⟨s.1.items.length, ι0, ρ, s.2, by simp, Le.refl _ _, rs.mono l0, rm0, by simpa using hf⟩, ?_⟩
  rintro i n σ1 H1 ⟨ι1, ρ1, m1, en, l1, rs1, rm1, hw⟩
  by_cases hi : i < s.1.items.length
  · rw [List.drop_eq_getElem_cons hi] at hw
    unfold forX at hw
    split at hw
    · rename_i hc
      obtain ⟨y, h4, hw⟩ := bind_some hw
      obtain ⟨z, h5, hw⟩ := bind_some hw
      obtain ⟨_, w2⟩ := wk ι1 H1 m1 i l1 rm1 hc
      obtain ⟨go, w3⟩ := w2 _ (List.getElem?_eq_getElem hi)
      refine .inr ⟨go, fun σ' H' => ∃ ι' ρ' m', Le ι0 H0 ι' H' ∧ RS X.K ι' H' σ' ρ' ∧ RM X.K ι' H' m' ∧ forX g s1 s.1.live (s.1.items.drop (i + 1)) ρ' m' = some r, fun σ' H' ⟨ι', ρ', m', a, b, c, d⟩ => ⟨s.1.items.length - (i + 1), by omega, ι', ρ', m', rfl, a, b, c, d⟩, fun x H3 hy => ?_⟩
      obtain ⟨l3, rm3, rv3⟩ := w3 x H3 hy
      refine ⟨ι1, ρ1, m1, _, y.1, y.2, rs1.mono l3, rm3, rv3, h4, fun σ' ι4 H4 l4 rs4 rm4 => ?_⟩
      have l14 : Le ι0 H0 ι4 H4 := l1.tr rm1 (l3.tr rm3 l4)
      refine ⟨ι4, y.1, y.2, z, rs4, rm4, h5, ?_⟩
      cases z with
      | ok z =>
        cases z with
        | nx ρ' m' => exact fun σ' ι' H' l' rs' rm' => ⟨ι', ρ', m', l14.tr rm4 l', rs', rm', hw⟩
        | ct ρ' m' => exact fun σ' ι' H' l' rs' rm' => ⟨ι', ρ', m', l14.tr rm4 l', rs', rm', hw⟩
        | bk ρ' m' => cases hw; exact fun σ' ι' H' l' rs' rm' => k σ' ι' H' (l0.tr rm0 (l14.tr rm4 l')) rs' rm'
        | rt r' m' => cases hw; exact fun v ι' H' l' rm' ro' => k v ι' H' (l0.tr rm0 (l14.tr rm4 l')) rm' (ro'.from (l0.tr rm0 l14) rm4)
      | er z ρ' m' => cases hw; exact fun σ' ι' H' cls d l' rs' rm' xd' => k σ' ι' H' cls d (l0.tr rm0 (l14.tr rm4 l')) rs' rm' xd'
    · cases hw
  · rw [List.drop_eq_nil_of_le (by omega)] at hw
    unfold forX at hw
    split at hw
    · rename_i hc
      cases hw
      obtain ⟨w1, _⟩ := wk ι1 H1 m1 i l1 rm1 hc
      exact .inl ⟨w1 (by omega), k σ1 ι1 H1 (l0.tr rm0 l1) rs1 rm1⟩
    · cases hw
/-! assignments and calls that may raise -/
theorem sx_set {i : Nat} (h0 : PS X st (tAsg (tEx X.K X.mg W fx) (gName i))) : SSx X W st (xSet i fx) := ps_imp h0 fun D σ H ⟨ι, ρ, m, r, rs, rm, hf, k⟩ => by
  obtain ⟨⟨z, m'⟩, h3, hf⟩ := bind_some hf
  refine ⟨ι, ρ, m, z, m', rs, rm, h3, ?_⟩
  cases z with
  | ok x =>
    cases hf
    intro v ι1 H1 l1 rm1 ro1 bd1
    obtain ⟨ι2, l2, rm2, rv, rs2, _, _⟩ := ro1.val l1 rm1 (rs.mono l1)
    exact k _ ι2 H1 l2 (rs2.put rv) rm2
  | er x =>
    cases hf
    intro cls d ι1 H1 l1 rm1 xd
    exact k σ ι1 H1 cls d l1 (rs.mono l1) rm1 xd
theorem sx_put (h0 : PS X st (tAsg (tEx X.K X.mg W fx) (tG X.K g))) : SSx X W st (xPut fx g) := ps_imp h0 fun D σ H ⟨ι, ρ, m, r, rs, rm, hf, k⟩ => by
  obtain ⟨⟨z, m'⟩, h3, hf⟩ := bind_some hf
  refine ⟨ι, ρ, m, z, m', rs, rm, h3, ?_⟩
  cases z with
  | ok x =>
    obtain ⟨y, h4, hf⟩ := bind_some hf
    cases hf
    intro v ι1 H1 l1 rm1 ro1 bd1
    obtain ⟨ι2, l2, rm2, rv, rs2, _, _⟩ := ro1.val l1 rm1 (rs.mono l1)
    exact ⟨ι2, ρ, _, _, y.1, y.2, rs2, rm2, rv, h4, fun σ' ι3 H3 l3 rs3 rm3 => k σ' ι3 H3 (l2.tr rm2 l3) rs3 rm3⟩
  | er x =>
    cases hf
    intro cls d ι1 H1 l1 rm1 xd
    exact k σ ι1 H1 cls d l1 (rs.mono l1) rm1 xd
theorem sx_do (h0 : PS X (.Expr e pos) (tDrop (tEx X.K X.mg W fx))) : SSx X W (.Expr e pos) (xDo fx) := ps_imp h0 fun D σ H ⟨ι, ρ, m, r, rs, rm, hf, k⟩ => by
  obtain ⟨⟨z, m'⟩, h3, hf⟩ := bind_some hf
  refine ⟨ι, ρ, m, z, m', rs, rm, h3, ?_⟩
  cases z with
  | ok x =>
    cases hf
    exact fun v ι1 H1 l1 rm1 ro1 bd1 => k σ ι1 H1 l1 (rs.mono l1) rm1
  | er x =>
    cases hf
    intro cls d ι1 H1 l1 rm1 xd
    exact k σ ι1 H1 cls d l1 (rs.mono l1) rm1 xd
end
/-! ### raise -/
/-- an __init__ that lays no field -/
def spI0 (C : Addr) : Sp := fun vs H Q _ => ∃ a, vs = [.ref a] ∧ H a = some (exo a C none) ∧ Q .non H
/-- .. that lays one -/
def spI1 (f1 : Str) (C : Addr) : Sp := fun vs H Q _ => ∃ a x, vs = [.ref a, x] ∧ H a = some (exo a C none) ∧ ∀ dx, H dx = none → dx ≠ a → Q .non (upd (upd H dx (exd dx [(f1, x)])) a (exo a C (some dx)))
/-- .. that lays two -/
def spI2 (f1 f2 : Str) (C : Addr) : Sp := fun vs H Q _ => ∃ a x y, vs = [.ref a, x, y] ∧ H a = some (exo a C none) ∧ ∀ dx, H dx = none → dx ≠ a →
  Q .non (upd (upd (upd H dx (exd dx [(f1, x)])) a (exo a C (some dx))) dx (exd dx [(f2, y), (f1, x)]))
/-- a class of the text, with its __init__ -/
structure XCls (P : Program) (w : World) (K : PySem.W.Frag) (mg : Str → Option Value) (base : Heap) (x : Str) (ps : List Str) (sp : Addr → Sp) : Prop where
  ex : ∃ (C fI : Addr) (fd : FuncData), mg x = some (.ref C) ∧ OexC K C ∧ PySem.W.findIn K (.ref C) "__init__" = some (some (.ref fI)) ∧ PySem.W.typeIn K (.ref fI) = some (.type "function") ∧
    FnOk P w K mg base CX0 2 fI fd ps (sp C) ∧ Binds K fd ps []
theorem rm_keep {K : PySem.W.Frag} {ι : List Addr} {H H' : Hp} {m : Mem} (rm : RM K ι H m) (k : ∀ b o, H b = some o → H' b = some o) : RM K ι H' m :=
  ⟨rm.nd, rm.len, fun n b e => let ⟨a, e1, rb⟩ := rm.ob n b e; ⟨a, e1, rb.mono ⟨⟨[], by simp, by simp⟩, fun a o h _ => k a o h⟩ (by
    cases q : H a with
    | none => exact absurd q (rm.there a (List.mem_of_getElem? e1))
    | some o => exact k a o q)⟩⟩
theorem le_keep {ι : List Addr} {H H' : Hp} (k : ∀ b o, H b = some o → H' b = some o) : Le ι H ι H' := ⟨⟨[], by simp, by simp⟩, fun a o h _ => k a o h⟩
section
variable {X : Cx} {W : WX} {pos p : Pos} {x : Str} {k : Nat} {fr : A} {e : Expr} {es : List Expr}
theorem sx_raise0 {pos2 : Pos} (c : XCls X.prog X.w X.K X.mg X.base x ["self"] spI0) (hr : Room k X.A) (hk : 3 ≤ k) (hc : X.calm = true) (tk : Takes X W) (hg : Gl X x := by rfl) (hdb : (x == ("__debug__" : Str)) = false := by decide) :
    SSx X W (.Raise (some (.Call (.Name x p) [] [] pos)) none pos2) (xRz0 x) := by
  obtain ⟨C, fI, fd, hm, T, iC, tI, F1, hb⟩ := c.ex
  refine ps_imp (ps_raise hc tk (pmk_oex0 T iC tI F1 (hr.mono hk) hb pass0 hg hm hdb)) fun D σ H ⟨ι, ρ, m, r, rs, rm, hf, kk⟩ => ?_
  cases hf
  intro a ha
  refine ⟨a, rfl, upd_same, rfl, upd_same, ?_⟩
  have e : del (upd H a (exo a C none)) a = H := by
    funext b
    by_cases hb : b = a
    · rw [hb, del_same, ha]
    · rw [del_ne hb, upd_ne hb]
  rw [e]
  exact kk σ ι H _ none (Le.refl _ _) rs rm ⟨C, rfl, hm, rfl⟩
theorem sx_raise1 {pos2 : Pos} {f1 : Str} (c : XCls X.prog X.w X.K X.mg X.base x ["self", f1] (spI1 f1)) (hr : Room k X.A) (hk : 3 ≤ k) (hc : X.calm = true) (tk : Takes X W) (ha : SA X [e] fr) (hg : Gl X x := by rfl) (hdb : (x == ("__debug__" : Str)) = false := by decide)
    (he : starEach [e] X.env = (false, eval e X.env) :: starEach [] X.env := by rfl) (hpl : (backTo pos (starEach [] X.env)).any (·.1) = false := by rfl) :
    SSx X W (.Raise (some (.Call (.Name x p) [e] [] pos)) none pos2) (xRz x [f1] fr) := by
  obtain ⟨C, fI, fd, hm, T, iC, tI, F1, hb⟩ := c.ex
  refine ps_imp (ps_raise hc tk (pmk_oex T iC tI F1 (hr.mono hk) hb .nil pass0 hg hm ha hdb he hpl)) fun D σ H ⟨ι, ρ, m, r, rs, rm, hf, kk⟩ => ?_
  obtain ⟨⟨ds, m1⟩, h1, hf⟩ := bind_some hf
  simp only at hf
  split at hf
  · rename_i hl
    cases hf
    refine ⟨ι, ρ, m, ds, m1, rs, rm, h1, fun vs ι1 H1 l1 rm1 rvs bd1 => ?_⟩
    match ds, rvs, hl with
    | [d1], .cons (v := v1) r1 .nil, _ =>
      refine ⟨by simp, fun a ha => ⟨a, v1, rfl, upd_same, fun dx hdx hne => ⟨rfl, dx, [(f1, v1)], upd_same, ?_, ?_, ?_⟩⟩⟩
      · rw [upd_ne hne, upd_same]
      · rw [upd_ne hne] at hdx; exact hdx
      · have hd1 : H1 dx = none := by rw [upd_ne hne] at hdx; exact hdx
        have kp : ∀ b o, H1 b = some o → upd (del (upd (upd (upd H1 a (exo a C none)) dx (exd dx [(f1, v1)])) a (exo a C (some dx))) a) dx (.xd [(f1, v1)]) b = some o := fun b o q => by
          have n1 : b ≠ a := fun z => by rw [z, ha] at q; cases q
          have n2 : b ≠ dx := fun z => by rw [z, hd1] at q; cases q
          rw [upd_ne n2, del_ne n1, upd_ne n1, upd_ne n2, upd_ne n1]; exact q
        exact kk σ ι1 _ _ (some dx) (l1.tr rm1 (le_keep kp)) ((rs.mono l1).mono (le_keep kp)) (rm_keep rm1 kp) ⟨C, rfl, hm, _, upd_same, .cons ⟨rfl, r1.mono (le_keep kp)⟩ .nil⟩
  · cases hf
theorem sx_raise2 {pos2 : Pos} {e2 : Expr} {f1 f2 : Str} (c : XCls X.prog X.w X.K X.mg X.base x ["self", f1, f2] (spI2 f1 f2)) (hr : Room k X.A) (hk : 3 ≤ k) (hc : X.calm = true) (tk : Takes X W) (ha : SA X [e, e2] fr) (hg : Gl X x := by rfl) (hdb : (x == ("__debug__" : Str)) = false := by decide)
    (he : starEach [e, e2] X.env = (false, eval e X.env) :: starEach [e2] X.env := by rfl) (hpl : (backTo pos (starEach [e2] X.env)).any (·.1) = false := by rfl) :
    SSx X W (.Raise (some (.Call (.Name x p) [e, e2] [] pos)) none pos2) (xRz x [f1, f2] fr) := by
  obtain ⟨C, fI, fd, hm, T, iC, tI, F1, hb⟩ := c.ex
  refine ps_imp (ps_raise hc tk (pmk_oex T iC tI F1 (hr.mono hk) hb .nil pass0 hg hm ha hdb he hpl)) fun D σ H ⟨ι, ρ, m, r, rs, rm, hf, kk⟩ => ?_
  obtain ⟨⟨ds, m1⟩, h1, hf⟩ := bind_some hf
  simp only at hf
  split at hf
  · rename_i hl
    cases hf
    refine ⟨ι, ρ, m, ds, m1, rs, rm, h1, fun vs ι1 H1 l1 rm1 rvs bd1 => ?_⟩
    match ds, rvs, hl with
    | [d1, d2], .cons (v := v1) r1 (.cons (v := v2) r2 .nil), _ =>
      refine ⟨by simp, fun a ha => ⟨a, v1, v2, rfl, upd_same, fun dx hdx hne => ⟨rfl, dx, [(f2, v2), (f1, v1)], ?_, ?_, ?_, ?_⟩⟩⟩
      · rw [upd_ne (Ne.symm hne), upd_same]
      · rw [upd_same]
      · rw [upd_ne hne] at hdx; exact hdx
      · have hd1 : H1 dx = none := by rw [upd_ne hne] at hdx; exact hdx
        have kp : ∀ b o, H1 b = some o → upd (del (upd (upd (upd (upd H1 a (exo a C none)) dx (exd dx [(f1, v1)])) a (exo a C (some dx))) dx (exd dx [(f2, v2), (f1, v1)])) a) dx (.xd [(f2, v2), (f1, v1)]) b = some o := fun b o q => by
          have n1 : b ≠ a := fun z => by rw [z, ha] at q; cases q
          have n2 : b ≠ dx := fun z => by rw [z, hd1] at q; cases q
          rw [upd_ne n2, del_ne n1, upd_ne n2, upd_ne n1, upd_ne n2, upd_ne n1]; exact q
        exact kk σ ι1 _ _ (some dx) (l1.tr rm1 (le_keep kp)) ((rs.mono l1).mono (le_keep kp)) (rm_keep rm1 kp) ⟨C, rfl, hm, _, upd_same, .cons ⟨rfl, r2.mono (le_keep kp)⟩ (.cons ⟨rfl, r1.mono (le_keep kp)⟩ .nil)⟩
  · cases hf
end
end Q
/-! defs that may raise; their calls; try -/
namespace Q
open PySem L2
def atomD : D → Bool
  | .int _ => true
  | .str _ => true
  | .bl _ => true
  | .non => true
  | _ => false
theorem RV.atom {K : PySem.W.Frag} {ι ι' : List Addr} {H H' : Hp} {d : D} {v : V} (h : RV K ι H d v) (ha : atomD d = true) : RV K ι' H' d v := by
  cases h with
  | non => exact .non
  | bl b => exact .bl b
  | int i => exact .int i
  | str s => exact .str s
  | _ => cases ha
noncomputable def fnX (np ns : Nat) (body : Sx) : FnX := fun ds m => if ds.length = np then (body (ds.map some ++ List.replicate (ns - np) none) m).bind fun r => match r with
  | .ok (.rt x m') => some (.ok (shut m x m').1, (shut m x m').2)
  | .ok (.nx _ m') => some (.ok (shut m (.v .non) m').1, (shut m (.v .non) m').2)
  | .er x _ m' => if (x.fs.all fun p => atomD p.2) = true then some (.er x, (shut m (.v .non) m').2) else none
  | _ => none
  else none
theorem fnX_len {np ns : Nat} {body : Sx} : ∀ ds m r, fnX np ns body ds m = some r → ds.length = np := fun ds m r h => by
  unfold fnX at h
  split at h
  · assumption
  · cases h
def spX (K : PySem.W.Frag) (mg : Str → Option Value) (n : Nat) (F : FnX) : Sp := fun vs H Q E => ∃ ι ds m z m', ds.length = n ∧ RVs K ι H ds vs ∧ RM K ι H m ∧ F ds m = some (z, m') ∧ match z with
  | .ok r => ∀ v ι' H', Le ι H ι' H' → RM K ι' H' m' → RO K H ι' H' r v → Q v H'
  | .er x => ∀ cls d ι' H', Le ι H ι' H' → RM K ι' H' m' → XdIs K mg ι' H' x cls d → E cls d H'
/-- a def's wish: the slots are of no account -/
abbrev wE (E : XK) : WX := fun cls d _ H => E cls d H
structure CalleeX (P : Program) (w : World) (K : PySem.W.Frag) (mg : Str → Option Value) (base : Heap) (k : Nat) (x : Str) (n : Nat) (F : FnX) : Prop where
  ex : ∃ (f : Addr) (fd : FuncData) (ps : List Str), FnOk P w K mg base (L2.CX P w) k f fd ps (spX K mg n F) ∧ mg x = some (.ref f) ∧ PySem.W.keepIn K (.ref f) = true ∧ Binds K fd ps []
  len : ∀ ds m r, F ds m = some r → ds.length = n
section
variable {P : Program} {w : World} {K : PySem.W.Frag} {mg : Str → Option Value} {base : Heap}
theorem fnx_ok {x qual : Str} {st : Stmt} {f : Addr} {fd : FuncData} {N ps : List Str} {k : Nat} {body : Sx} {np ns : Nat} (F : Fun K x qual st f fd) (Sc : FnScope N ps (defScope st)) (hp : ps.length = np) (hn : N.length = ns)
    (hb : ∀ (cdv : Value) (A : Around) (outer : List PySem.Env) (s : Shared) (H : Hp) (E : XK), Room k (A.deeper (PyProof.Rows.envOfC qual (defScope st) s.heap.objs.size f cdv)) → SSxs (cxOf (L2.CX P w) P w K mg base N qual (defScope st) f cdv A outer s H E) (wE E) (defBody st) body) :
    FnOk P w K mg base (L2.CX P w) (k + 1) f fd ps (spX K mg np (fnX np ns body)) := by
  refine F.okX Sc (fun vs H Q E h => ?_) (fun cdv A outer s H vs Q E hr h => ?_)
  · obtain ⟨ι, ds, m, z, m', hl, rvs, _⟩ := h
    rw [← rvs.length, hl, hp]
  · obtain ⟨ι, ds, m, z, m', hl, rvs, rm, hf, k⟩ := h
    refine ⟨_, hb cdv A outer s H E hr, ?_⟩
    unfold fnX at hf
    rw [if_pos hl] at hf
    obtain ⟨y, h1, hf⟩ := bind_some hf
    have rs := rvs.start (N := N)
    rw [hl, hn] at rs
    refine ⟨ι, _, m, y, rs, rm, h1, ?_⟩
    cases y with
    | ok y =>
      cases y with
      | rt x m1 =>
        have e := Option.some.inj hf
        cases e
        intro v ι1 H1 l1 rm1 ro1
        obtain ⟨ι2, a, b, c⟩ := shut_ok rm l1 rm1 ro1
        exact k v ι2 H1 a b c
      | nx ρ' m1 =>
        have e := Option.some.inj hf
        cases e
        intro σ1 ι1 H1 l1 rs1 rm1
        obtain ⟨ι2, a, b, c⟩ := shut_ok (r := .v .non) (v := .non) rm l1 rm1 .non
        exact k .non ι2 H1 a b c
      | bk ρ' m1 => cases hf
      | ct ρ' m1 => cases hf
    | er x ρ' m1 =>
      simp only at hf
      split at hf
      · rename_i hat
        cases hf
        intro σ1 ι1 H1 cls d l1 rs1 rm1 xd
        obtain ⟨ι2, a, b, c⟩ := shut_ok (r := .v .non) (v := .non) rm l1 rm1 .non
        refine k cls d ι2 H1 a b ?_
        obtain ⟨C, e1, e2, e3⟩ := xd
        refine ⟨C, e1, e2, ?_⟩
        cases d with
        | none => exact e3
        | some dx =>
          obtain ⟨fs, e4, e5⟩ := e3
          refine ⟨fs, e4, ?_⟩
          have hall : ∀ p ∈ x.fs, atomD p.2 = true := List.all_eq_true.mp hat
          clear e2 hat e4
          generalize x.fs = xs at *
          induction e5 with
          | nil => exact .nil
          | cons h _ ih => exact .cons ⟨h.1, RV.atom h.2 (hall _ (by simp))⟩ (ih fun p hp => hall p (by simp [hp]))
      · cases hf
theorem mkCX {x : Str} {st : Stmt} {N ps : List Str} {k : Nat} {body : Sx} {np ns : Nat} (d : Df K mg x st) (Sc : FnScope N ps (defScope st)) (hp : ps.length = np) (hn : N.length = ns)
    (hb : ∀ (kV doc pm : Value) (an : Option Addr) (cdv ct : Value) (us : List Value), us.length = ps.length → bindArgs (PySem.W.fnOf x x (defArgs st) (defBody st) (defScope st) .none kV doc pm an cdv ct) ⟨us, []⟩ = pure (ps.zip us))
    (h : ∀ (f : Addr) (cdv : Value) (A : Around) (outer : List PySem.Env) (s : Shared) (H : Hp) (E : XK), Room k (A.deeper (PyProof.Rows.envOfC x (defScope st) s.heap.objs.size f cdv)) → SSxs (cxOf (L2.CX P w) P w K mg base N x (defScope st) f cdv A outer s H E) (wE E) (defBody st) body) :
    CalleeX P w K mg base (k + 1) x np (fnX np ns body) := by
  obtain ⟨f, fd, e, F⟩ := d
  exact ⟨⟨f, fd, ps, fnx_ok F Sc hp hn (h f), e, F.kp, F.binds hb⟩, fnX_len⟩
end
/-- a call that may raise -/
theorem callX_ {X : Cx} {W : WX} {e : Expr} {es : List Expr} {pos p : Pos} {x : Str} {k j n : Nat} {F : FnX} {fr : A} (c : CalleeX X.prog X.w X.K X.mg X.base k x n F) (hr : Room j X.A) (hk : k ≤ j) (tk : Takes X W) (ha : SA X (e :: es) fr) (hg : Gl X x := by rfl)
    (hdb : (x == ("__debug__" : Str)) = false := by decide) (he : starEach (e :: es) X.env = (false, eval e X.env) :: starEach es X.env := by rfl) (hpl : (backTo pos (starEach es X.env)).any (·.1) = false := by rfl) : PE X (.Call (.Name x p) (e :: es) [] pos) (tEx X.K X.mg W (eCallX F fr)) := by
  obtain ⟨f, fd, ps, h1, h2, h3, h4⟩ := c.ex
  refine pe_imp (pe_callS h1 (hr.mono hk) hg h2 h3 h4 (fun σ => passAt tk σ) ha hdb he hpl) fun σ H Q ⟨ι, ρ, m, z, m', rs, rm, hf, kk⟩ => ?_
  obtain ⟨⟨ds, m1⟩, h5, hf⟩ := bind_some hf
  refine ⟨ι, ρ, m, ds, m1, rs, rm, h5, fun vs ι1 H1 l1 rm1 rvs bd1 => ?_⟩
  refine ⟨ι1, ds, m1, z, m', c.len _ _ _ hf, rvs, rm1, hf, ?_⟩
  cases z with
  | ok r => exact fun v ι2 H2 l2 rm2 ro2 bd => kk v ι2 H2 (l1.tr rm1 l2) rm2 (ro2.from l1 rm1) bd
  | er x => exact fun cls d ι2 H2 l2 rm2 xd => kk cls d ι2 H2 (l1.tr rm1 l2) rm2 xd
/-- what it hands back where it does not raise -/
noncomputable def okFn (F : FnX) : Fn := fun ds m => match F ds m with
  | some (.ok r, m') => some (r, m')
  | _ => none
theorem okFn_some {F : FnX} {ds : List D} {m m' : Mem} {r : Out} (h : okFn F ds m = some (r, m')) : F ds m = some (.ok r, m') := by
  unfold okFn at h
  split at h
  · rename_i r1 m1 e; cases h; exact e
  · cases h
theorem callN_ {X : Cx} {e : Expr} {es : List Expr} {pos p : Pos} {x : Str} {k j n : Nat} {F : FnX} {fr : A} (c : CalleeX X.prog X.w X.K X.mg X.base k x n F) (hr : Room j X.A) (hk : k ≤ j) (ha : SA X (e :: es) fr) (hg : Gl X x := by rfl)
    (hdb : (x == ("__debug__" : Str)) = false := by decide) (he : starEach (e :: es) X.env = (false, eval e X.env) :: starEach es X.env := by rfl) (hpl : (backTo pos (starEach es X.env)).any (·.1) = false := by rfl) : SE X (.Call (.Name x p) (e :: es) [] pos) (eCall (okFn F) fr) := by
  obtain ⟨f, fd, ps, h1, h2, h3, h4⟩ := c.ex
  have h1' : FnOk X.prog X.w X.K X.mg X.base (L2.CX X.prog X.w) k f fd ps (spF X.K n (okFn F)) := h1.imp fun vs H Q E h => by
    obtain ⟨ι, ds, m, r, m', hl, rvs, rm, hf, kk⟩ := h
    exact ⟨ι, ds, m, .ok r, m', hl, rvs, rm, okFn_some hf, kk⟩
  exact se_call (pe_call h1' (hr.mono hk) hg h2 h3 h4 .nil passL ha hdb he hpl) fun ds m r h => c.len ds m _ (okFn_some (r := r.1) (m' := r.2) h)
/-! ### try -/
def sTry (b : Sx) (hd : Xd → S) : S := fun ρ m => (b ρ m).bind fun r => match r with
  | .ok r => some r
  | .er x ρ' m' => hd x ρ' m'
/-- a suite for one class -/
def sOn (nm : Str) (s : S) : Xd → S := fun x => if x.nm = nm then s else fun _ _ => none
section
variable {X : Cx} {body suite : List Stmt} {b₀ : Stmt} {np pos pos' : Pos} {bx : Sx} {sh : S} {x : Str} {C : Addr}
theorem ss_tryOnly (hs : X.stack = X.env :: X.outer) (hf : X.env.frame = some X.env.locals) (hg : Gl X x) (hm : X.mg x = some (.ref C)) (he : PySem.W.exmOne X.K (.ref C) (.ref C) = some true)
    (hb : ∀ (W : WX) (pn : List (Addr × Obj)) (xe : Value → Shared → Prop), Takes (X.tr pn xe) W → PassesOwn (model X.prog X.w) X.A X.env xe → SSxs (X.tr pn xe) W body bx)
    (hsu : ∀ (a : Addr) (oe : Obj) (pn : List (Addr × Obj)), SSs (X.suite a ((a, oe) :: pn)) (b₀ :: suite) sh) (hdb : (x == ("__debug__" : Str)) = false := by decide) :
    SS X (.Try body [.ExceptHandler (some (.Name x np)) none (b₀ :: suite) pos'] [] [] pos) (sTry bx (sOn x sh)) := by
  refine ps_imp (ps_try_only (c := .ref C) (tb := fun W => tSx X.K X.mg W bx) (ts := fun _ _ _ => tS X.K sh) (Wout := fun _ _ _ _ => False) hs hf ⟨hg, hdb, .inl hm⟩ takes0 hb fun a oe cls d pn _ _ => hsu a oe pn) fun D σ H ⟨ι, ρ, m, r, rs, rm, hf, k⟩ => ?_
  obtain ⟨y, h1, hf⟩ := bind_some hf
  refine ⟨ι, ρ, m, y, rs, rm, h1, ?_⟩
  cases y with
  | ok y => cases hf; exact k
  | er z ρ' m' =>
    simp only [sOn] at hf
    intro σ1 ι1 H1 cls d l1 rs1 rm1 xd
    split at hf
    · rename_i hn
      obtain ⟨C', e1, e2, _⟩ := xd
      rw [hn, hm] at e2
      cases e2
      subst e1
      exact ⟨true, he, fun _ a ha => ⟨ι1, ρ', m', r, rs1, rm1, hf, PR.from l1 rm1 k⟩, fun q => by cases q⟩
    · cases hf
end
end Q
/-! the classes' __init__s -/
namespace Q
open PySem L2
/-- a def in a class's body -/
def clsMeth (s : Stmt) (j : Nat) : Stmt := match s with
  | .ClassDef (body := b) .. => b.getD j (.Pass ⟨0, 0, 0, 0⟩)
  | _ => .Pass ⟨0, 0, 0, 0⟩
section
variable {P : Program} {w : World} {K : PySem.W.Frag} {mg : Str → Option Value} {base : Heap} {x qual : Str} {st : Stmt} {C fI : Addr} {fd : FuncData} {txt f1 f2 : Str}
abbrev tBI (K : PySem.W.Frag) (txt : Str) : TS := tDrop (tVeI K (tCons (tVar 0) (tCons (tC (.str txt)) tNil)))
theorem xcls0 (gm : mg x = some (.ref C)) (T : OexC K C) (iC : PySem.W.findIn K (.ref C) "__init__" = some (some (.ref fI))) (tI : PySem.W.typeIn K (.ref fI) = some (.type "function")) (F : Fun K "__init__" qual st fI fd) (Sc : FnScope ["self"] ["self"] (defScope st)) (hb : Binds K fd ["self"] [])
    (h : ∀ (cdv : Value) (A : Around) (outer : List PySem.Env) (s : Shared) (H : Hp) (E : XK), PSs (cxOf CX0 P w K mg base ["self"] qual (defScope st) fI cdv A outer s H E).nox (defBody st) (tBI K txt)) : XCls P w K mg base x ["self"] spI0 := by
  refine ⟨C, fI, fd, gm, T, iC, tI, F.ok Sc (fun vs H Q E h => ?_) (fun cdv A outer s H vs Q E hr hs => ⟨_, h cdv A outer s H E, ?_⟩), hb⟩
  · obtain ⟨a, rfl, _⟩ := h; rfl
  · obtain ⟨a, rfl, ea, q⟩ := hs
    exact ⟨_, rfl, a, C, [.str txt], rfl, by simp, T, ea, q⟩
theorem xcls1 (gm : mg x = some (.ref C)) (T : OexC K C) (iC : PySem.W.findIn K (.ref C) "__init__" = some (some (.ref fI))) (tI : PySem.W.typeIn K (.ref fI) = some (.type "function")) (F : Fun K "__init__" qual st fI fd) (Sc : FnScope ["self", f1] ["self", f1] (defScope st)) (hb : Binds K fd ["self", f1] [])
    (n1 : PySem.W.findIn K (.ref C) f1 = some none)
    (h : ∀ (cdv : Value) (A : Around) (outer : List PySem.Env) (s : Shared) (H : Hp) (E : XK), PSs (cxOf CX0 P w K mg base ["self", f1] qual (defScope st) fI cdv A outer s H E).nox (defBody st) (tSeq (tBI K txt) (tOst K f1 (tVar 0) (tVar 1)))) : XCls P w K mg base x ["self", f1] (spI1 f1) := by
  refine ⟨C, fI, fd, gm, T, iC, tI, F.ok Sc (fun vs H Q E h => ?_) (fun cdv A outer s H vs Q E hr hs => ⟨_, h cdv A outer s H E, ?_⟩), hb⟩
  · obtain ⟨a, y, rfl, _⟩ := h; rfl
  · obtain ⟨a, y, rfl, ea, q⟩ := hs
    refine ⟨_, rfl, a, C, [.str txt], rfl, by simp, T, ea, ?_⟩
    exact ⟨_, rfl, _, rfl, a, C, rfl, T, n1, .inl ⟨ea, fun dx hd hn => q dx hd hn⟩⟩
theorem xcls2 (gm : mg x = some (.ref C)) (T : OexC K C) (iC : PySem.W.findIn K (.ref C) "__init__" = some (some (.ref fI))) (tI : PySem.W.typeIn K (.ref fI) = some (.type "function")) (F : Fun K "__init__" qual st fI fd) (Sc : FnScope ["self", f1, f2] ["self", f1, f2] (defScope st)) (hb : Binds K fd ["self", f1, f2] [])
    (n1 : PySem.W.findIn K (.ref C) f1 = some none) (n2 : PySem.W.findIn K (.ref C) f2 = some none)
    (h : ∀ (cdv : Value) (A : Around) (outer : List PySem.Env) (s : Shared) (H : Hp) (E : XK), PSs (cxOf CX0 P w K mg base ["self", f1, f2] qual (defScope st) fI cdv A outer s H E).nox (defBody st) (tSeq (tBI K txt) (tSeq (tOst K f1 (tVar 0) (tVar 1)) (tOst K f2 (tVar 0) (tVar 2))))) : XCls P w K mg base x ["self", f1, f2] (spI2 f1 f2) := by
  refine ⟨C, fI, fd, gm, T, iC, tI, F.ok Sc (fun vs H Q E h => ?_) (fun cdv A outer s H vs Q E hr hs => ⟨_, h cdv A outer s H E, ?_⟩), hb⟩
  · obtain ⟨a, y, z, rfl, _⟩ := h; rfl
  · obtain ⟨a, y, z, rfl, ea, q⟩ := hs
    refine ⟨_, rfl, a, C, [.str txt], rfl, by simp, T, ea, ?_⟩
    refine ⟨_, rfl, _, rfl, a, C, rfl, T, n1, .inl ⟨ea, fun dx hd hn => ?_⟩⟩
    refine ⟨_, rfl, _, rfl, a, C, rfl, T, n2, .inr ⟨dx, [(f1, y)], upd_same, ?_, by simp, q dx hd hn⟩⟩
    rw [upd_ne hn, upd_same]
end
end Q
/-! a caught exception: isinstance, its fields -/
namespace L2
open PySem PySem.Spec PyProof.Rows
section
variable {X : Cx} {a C : Addr} {oe : Obj} {cls : Value} {d : Option Addr} {pn : List (Addr × Obj)}
/-- its dict, if it has one, is tracked -/
def DictAt (d : Option Addr) (H : Hp) : Prop := ∀ dx, d = some dx → ∃ fs, H dx = some (.xd fs)
theorem exc_inst {pins : List (Addr × Obj)} {σ : St} {H : Hp} {s : Shared} (I : Inv (X.suite a ((a, oe) :: pn)) pins σ H s) (hz : Zc (.ref C) d oe) (hf : ∃ vs, oe.data = .fields vs) (hd : DictAt d H) : ∃ od, PySem.W.InstAt s.heap a oe C od := by
  obtain ⟨hget, _⟩ := I.pin (a, oe) (List.mem_append.mpr (.inl List.mem_cons_self))
  obtain ⟨vs, hv⟩ := hf
  cases d with
  | none =>
    refine ⟨none, ?_⟩
    obtain ⟨oc, od, oda, osl⟩ := oe
    obtain ⟨h1, h2⟩ := hz
    dsimp only at h1 h2 hv
    subst h1 h2 hv
    exact ⟨hget, rfl, rfl, trivial⟩
  | some dx =>
    obtain ⟨fs, e⟩ := hd dx rfl
    have hx : ObjOk X.prog X.w H s.heap dx (.xd fs) := I.hok dx _ e
    obtain ⟨mA, hns, hr⟩ := hx
    obtain ⟨od, ho, hl⟩ := lookIn_ns hns
    exact ⟨some od, hget, hz.1, by unfold PySem.W.notCls; rw [hv] <;> rfl, by rw [hz.2]; exact ho⟩
theorem exc_kit (T : ExcC X.K C) {x : Addr} {ox : Obj} {od : Option Obj} : PySem.W.KitX X.K (.ref x) (.ref C) (fun h => PySem.W.InstAt h x ox C od) := by
  obtain ⟨cd, hc, _⟩ := PySem.W.any_some T.hd
  exact PySem.W.kitx_exc (by rw [hc]; rfl) T.hg T.hk T.hs T.ha T.hn T.ht T.hm
def rIsX (K : PySem.W.Frag) (C a : Addr) (d : Option Addr) : List V → Hp → VK → Prop := fun xs H Q => ∃ (c : V) (cv : Value) (b : Bool), xs = [.ref a, c] ∧ ClsV c cv ∧ DictAt d H ∧ PySem.W.kitOne K (.ref C) cv = some b ∧ Q (.bl b) H
def rIsXT (K : PySem.W.Frag) (C a : Addr) (d : Option Addr) : List V → Hp → VK → Prop := fun xs H Q => ∃ (tp : Addr) (cs : List V) (us : List Value) (b : Bool), xs = [.ref a, .ref tp] ∧ H tp = some (.tup cs) ∧ Paired ClsV cs us ∧ DictAt d H ∧ PySem.W.kitAny K (.ref C) us = some b ∧ Q (.bl b) H
theorem call_isX (T : ExcC X.K C) (hz : Zc (.ref C) d oe) (hf : ∃ vs, oe.data = .fields vs) : CallR (X.suite a ((a, oe) :: pn)) (.builtin "isinstance") (rIsX X.K C a d) := by
  intro pins s σ H xs us Q I r h
  obtain ⟨c, cv, b, rfl, k, hd, e, q⟩ := h
  obtain ⟨u1, u2, rfl, r1, r2⟩ := vals2 r
  cases (show u1 = Value.ref a from r1)
  have e2 := k.eq r2
  subst e2
  obtain ⟨od, J⟩ := exc_inst I hz hf hd
  exact PySem.W.kia_one (exc_kit T) I.kIn J e (fun z => nomatch z) fun tk => ⟨.bl b, H, I.tok tk, rfl, q⟩
theorem call_isXT (T : ExcC X.K C) (hz : Zc (.ref C) d oe) (hf : ∃ vs, oe.data = .fields vs) : CallR (X.suite a ((a, oe) :: pn)) (.builtin "isinstance") (rIsXT X.K C a d) := by
  intro pins s σ H xs us Q I r h
  obtain ⟨tp, cs, ws, b, rfl, hT, k, hd, e, q⟩ := h
  obtain ⟨u1, u2, rfl, r1, r2⟩ := vals2 r
  cases (show u1 = Value.ref a from r1)
  cases (show u2 = Value.ref tp from r2)
  obtain ⟨od, J⟩ := exc_inst I hz hf hd
  obtain ⟨_, its, rv, o, h1, h2, n, h3⟩ := (show ObjOk X.prog X.w H s.heap tp (.tup cs) from I.hok tp _ hT)
  have e3 := ClsV.all k rv
  subst e3
  obtain ⟨oc, od', dt, sl⟩ := o
  simp only at h2 h3
  subst h2 h3
  exact PySem.W.kia_tup (exc_kit T) I.kIn J h1 e (fun z => nomatch z) fun tk => ⟨.bl b, H, I.tok tk, rfl, q⟩
/-- e.f -/
def tAtt (C a : Addr) (cls : Value) (d : Option Addr) (f : Str) (te : TE) : TE := fun σ H Q => te σ H fun x H1 => x = .ref a ∧ cls = .ref C ∧ ∃ dd fs v, d = some dd ∧ H1 dd = some (.xd fs) ∧ List.lookup f fs = some v ∧ Q v H1
theorem pe_att {e : Expr} {te : TE} {f : Str} {pos : Pos} (T : ExcC X.K C) (noN : PySem.W.findIn X.K (.ref C) f = some none) (hz : Zc cls d oe) (hf : ∃ vs, oe.data = .fields vs) (he : PE (X.suite a ((a, oe) :: pn)) e te)
    (hb : attributeBase e f X.env (eval e X.env) = eval e X.env := by rfl) :
    PE (X.suite a ((a, oe) :: pn)) (.Attribute e f pos) (tAtt C a cls d f te) := by
  refine ⟨fun pins s σ H Q I h => ?_⟩
  refine attr_of hb (thn (he.run pins s σ H _ I h) fun u s1 hh => ?_)
  obtain ⟨x, H1, I1, rx, ex, ec, dd, fs, v, ed, ea, l, q⟩ := hh
  subst ex
  obtain rfl : u = Value.ref a := rx
  subst ec
  subst ed
  obtain ⟨ha, _⟩ := I1.pin (a, oe) (List.mem_append_left _ List.mem_cons_self)
  obtain ⟨vs, hd⟩ := hf
  have hx : ObjOk X.prog X.w H1 s1.heap dd (.xd fs) := I1.hok dd _ ea
  obtain ⟨mA, hns, hr⟩ := hx
  obtain ⟨od, ho, hl⟩ := lookIn_ns hns
  obtain ⟨u, hu, ru⟩ := RelO.some_of (v := v) (o := mA f) (by rw [← l]; exact hr f)
  have J : PySem.W.InstAt s1.heap a oe C (some od) := ⟨ha, hz.1, by unfold PySem.W.notCls; rw [hd] <;> rfl, by rw [hz.2]; exact ho⟩
  exact HandSPX.exc_get I1.kIn J T.hg T.hk T.hs (PySem.W.findObj_own T.hd noN rfl (by rw [hl, hu])) (handed_of ru) ⟨v, H1, I1.tok _, ru, q⟩
end
end L2
namespace Q
open PySem L2
theorem kit_cls1 {K : PySem.W.Frag} {t : Value} {C1 : Addr} {b : Bool} (h2 : PySem.W.isClsIn K C1 = true) (h3 : PySem.W.typeIn K (.ref C1) = some (.type "type")) (h4 : PySem.W.subIn K t (.ref C1) = some b) : PySem.W.kitCls K t (.ref C1) = some b := by
  have e2 : ((PySem.W.clsIn K C1).isSome && PySem.W.typeIn K (.ref C1) == some (.type "type")) = true := by
    have h2' : (PySem.W.clsIn K C1).isSome = true := h2
    rw [h2', h3] <;> rfl
  show (if ((PySem.W.clsIn K C1).isSome && PySem.W.typeIn K (.ref C1) == some (.type "type")) = true then PySem.W.subIn K t (.ref C1) else none) = some b
  rw [if_pos e2]; exact h4
theorem exm_of {K : PySem.W.Frag} {C CB : Addr} (h1 : PySem.W.subIn K (.ref CB) (.type "BaseException") = some true) (h2 : PySem.W.isClsIn K CB = true) (h3 : PySem.W.typeIn K (.ref CB) = some (.type "type")) (h4 : PySem.W.subIn K (.ref C) (.ref CB) = some true) : PySem.W.exmOne K (.ref C) (.ref CB) = some true := by
  have e1 : (PySem.W.subIn K (.ref CB) (.type "BaseException") == some true) = true := by rw [h1] <;> rfl
  show (if (PySem.W.subIn K (.ref CB) (.type "BaseException") == some true) = true then PySem.W.kitCls K (.ref C) (.ref CB) else none) = some true
  rw [if_pos e1]; exact kit_cls1 h2 h3 h4
theorem kit_self (K : PySem.W.Frag) (C : Addr) : PySem.W.kitOne K (.ref C) (.ref C) = some true := by
  unfold PySem.W.kitOne
  rw [if_pos (beq_self_eq_true _)]
theorem kit_ve {K : PySem.W.Frag} {C : Addr} (h : PySem.W.subIn K (.ref C) (.type "ValueError") = some true) : PySem.W.kitOne K (.ref C) (.type "ValueError") = some true := by
  have hm : PySem.W.kitMeta "ValueError" = true := by decide +kernel
  unfold PySem.W.kitOne
  rw [if_neg (show ¬ ((Value.ref C == Value.type "ValueError") = true) from fun q => by cases beq_iff_eq.mp q)]
  show (if PySem.W.kitMeta "ValueError" = true then PySem.W.subIn K (.ref C) (.type "ValueError") else none) = some true
  rw [if_pos hm]; exact h
theorem kit_no {K : PySem.W.Frag} {C C1 : Addr} (h0 : PySem.W.subIn K (.ref C) (.ref C) = some true) (h2 : PySem.W.isClsIn K C1 = true) (h3 : PySem.W.typeIn K (.ref C1) = some (.type "type")) (h4 : PySem.W.subIn K (.ref C) (.ref C1) = some false) : PySem.W.kitOne K (.ref C) (.ref C1) = some false := by
  unfold PySem.W.kitOne
  rw [if_neg fun q => ?_]
  · exact kit_cls1 h2 h3 h4
  · have e : C = C1 := Value.ref.inj (beq_iff_eq.mp q)
    subst e
    rw [h0] at h4; cases h4
theorem kit_no2 {K : PySem.W.Frag} {t c1 c2 : Value} (h1 : PySem.W.kitOne K t c1 = some false) (h2 : PySem.W.kitOne K t c2 = some false) : PySem.W.kitAny K t [c1, c2] = some false :=
  kitAny_cons h1 (fun _ => kitAny_cons h2 (fun _ => kitAny_nil) fun z => by cases z) fun z => by cases z
/-- what is asked of the classes of refusals: CB the one that is caught, C the one that comes, C1 and C2 the others -/
structure XQ (K : PySem.W.Frag) (mg : Str → Option Value) (xb x y z : Str) : Prop where
  ex : ∃ CB C C1 C2, mg xb = some (.ref CB) ∧ mg x = some (.ref C) ∧ mg y = some (.ref C1) ∧ mg z = some (.ref C2) ∧ ExcC K C ∧ PySem.W.exmOne K (.ref C) (.ref CB) = some true ∧
    PySem.W.kitOne K (.ref C) (.ref C) = some true ∧ PySem.W.kitOne K (.ref C) (.type "ValueError") = some true ∧ PySem.W.kitAny K (.ref C) [.ref C1, .ref C2] = some false
/-- the fields of a class of refusals are its own -/
structure XF (K : PySem.W.Frag) (mg : Str → Option Value) (x f1 f2 : Str) : Prop where
  n1 : ∀ C, mg x = some (.ref C) → PySem.W.findIn K (.ref C) f1 = some none
  n2 : ∀ C, mg x = some (.ref C) → PySem.W.findIn K (.ref C) f2 = some none
/-- except .. as e: where e is of the class x and nothing else is to be done -/
def sPass (nm : Str) (i : Nat) : Xd → S := fun x ρ m => if x.nm = nm ∧ i < ρ.length then some (.nx (ρ.set i none) m) else none
/-- except .. as e: its two fields as a pair into slot j -/
def sPair (nm f1 f2 : Str) (i j : Nat) : Xd → S := fun x ρ m => if x.nm = nm ∧ i < ρ.length ∧ j < ρ.length ∧ i ≠ j then match x.fs with
  | [(g2, d2), (g1, d1)] => if g1 = f1 ∧ g2 = f2 ∧ f1 ≠ f2 then some (.nx ((ρ.set j (some (.tup [d1, d2]))).set i none) m) else none
  | _ => none
  else none
theorem rs_drop {K : PySem.W.Frag} {ι : List Addr} {H : Hp} {σ : St} {ρ : Env} (h : RS K ι H σ ρ) (i : Nat) (v : Option V) : RS K ι H (σ.set i v) (ρ.set i none) := by
  refine ⟨by simpa using h.1, fun j d e => ?_⟩
  by_cases hj : j = i
  · subst hj
    by_cases hl : j < ρ.length
    · rw [List.getElem?_set_self hl] at e; cases e
    · rw [List.getElem?_eq_none (by simpa using hl)] at e; cases e
  · rw [List.getElem?_set_ne (Ne.symm hj)] at e
    obtain ⟨w, e1, e2⟩ := h.2 j d e
    exact ⟨w, by rw [List.getElem?_set_ne (Ne.symm hj)]; exact e1, e2⟩
theorem rs_drop2 {K : PySem.W.Frag} {ι : List Addr} {H : Hp} {σ : St} {ρ : Env} (h : RS K ι H σ ρ) (i : Nat) (v w : Option V) : RS K ι H ((σ.set i v).set i w) (ρ.set i none) := by
  rw [List.set_set]; exact rs_drop h i w
section
variable {X : Cx} {body sb : List Stmt} {bx : Sx} {fsb : S} {xb x y z n : Str} {i : Nat} {np pos pos' q1 q2 q3 q4 q5 r1 r2 r3 r4 r5 s1 s2 s3 s4 s5 s6 u1 u2 : Pos} {ctx : Nat}
theorem ss_tryRead (q : XQ X.K X.mg xb x y z) (hvt : X.mg "ValueError" = none) (hit : X.mg "isinstance" = none) (hN : X.N.Nodup)
    (hb : ∀ (W : WX) (pn : List (Addr × Obj)) (xe : Value → Shared → Prop), Takes (X.tr pn xe) W → PassesOwn (model X.prog X.w) X.A X.env xe → SSxs (X.tr pn xe) W body bx)
    (hsb : ∀ (a : Addr) (oe : Obj) (pn : List (Addr × Obj)), SSs (X.suite a ((a, oe) :: pn)) sb fsb)
    (hs : X.stack = X.env :: X.outer := by rfl) (hf : X.env.frame = some X.env.locals := by rfl) (hi : X.N[i]? = some n := by rfl) (hln : X.env.kindOf n = some .local := by rfl)
    (gb : Gl X xb := by rfl) (gx : Gl X x := by rfl) (gy : Gl X y := by rfl) (gz : Gl X z := by rfl) (gi : Gl X "isinstance" := by rfl) (gv : Gl X "ValueError" := by rfl)
    (dn : (n == ("__debug__" : Str)) = false := by decide) (dc : (n == ("__classdict__" : Str)) = false := by decide) (db : (xb == ("__debug__" : Str)) = false := by decide) (dx : (x == ("__debug__" : Str)) = false := by decide) (dy : (y == ("__debug__" : Str)) = false := by decide) (dz : (z == ("__debug__" : Str)) = false := by decide) :
    SS X (.Try body [.ExceptHandler (some (.Name xb np)) (some n) [.If (.BoolOp .Or [.UnaryOp .Not (.Call (.Name "isinstance" q1) [.Name n q2, .Name x q3] [] q4) q5, .UnaryOp .Not (.Call (.Name "isinstance" r1) [.Name n r2, .Name "ValueError" r3] [] r4) r5, .Call (.Name "isinstance" s1) [.Name n s2, .Tuple [.Name y s3, .Name z s4] ctx s5] [] s6] u1) sb [] u2] pos'] [] [] pos) (sTry bx (sPass x i)) := by
  obtain ⟨CB, C, C1, C2, mb, mx, my, mz, T, em, k1, k2, k3⟩ := q.ex
  have vis : Vis X.env.scope n := .inl hln
  refine ps_imp (ps_try_as (c := .ref CB) (i := i) (tb := fun W => tSx X.K X.mg W bx)
    (ts := fun a cls d => fun D σ H => cls = .ref C ∧ (tIfS (tOr (tNot (tB (tCB (rIsX X.K C a d) (tCons (tVar i) (tCons (tC (.ref C)) tNil))))) (tOr (tNot (tB (tCB (rIsX X.K C a d) (tCons (tVar i) (tCons (tC (.ty "ValueError")) tNil))))) (tB (tCB (rIsXT X.K C a d) (tCons (tVar i) (tCons (tTup (tCons (tC (.ref C1)) (tCons (tC (.ref C2)) tNil))) tNil)))))) (tS X.K fsb) tNext) D σ H)
    (Wout := fun _ _ _ _ => False) hs hf hN hi hln ⟨gb, db, .inl mb⟩ takes0 hb fun a oe cls d pn hz hfl => ?_) fun D σ H ⟨ι, ρ, m, r, rs, rm, hf, k⟩ => ?_
  · by_cases hc : cls = .ref C
    · subst hc
      refine pss_imp (pss_one (ps_if (PW.pt (pw_or (pt_not (pt_val (pe_callB (call_isX T hz hfl) gi hit (by decide +kernel) (pa_cons (pe_var hi vis dn dc) (pa_cons (pe_glob (v := .ref C) gx mx rfl dx) pa_nil))))) (pw_or (pt_not (pt_val (pe_callB (call_isX T hz hfl) gi hit (by decide +kernel) (pa_cons (pe_var hi vis dn dc) (pa_cons (pe_bltn gv hvt (v := .ty "ValueError") (u := .type "ValueError") (by decide +kernel) rfl) pa_nil))))) (pw_or1 (pt_val (pe_callB (call_isXT T hz hfl) gi hit (by decide +kernel) (pa_cons (pe_var hi vis dn dc) (pa_cons (pe_tup (pa_cons (pe_glob (v := .ref C1) gy my rfl dy) (pa_cons (pe_glob (v := .ref C2) gz mz rfl dz) pa_nil))) pa_nil)))))))) (hsb a oe pn) pss_nil)) fun D σ H h => h.2
    · exact ⟨fun pins s σ H D I h => absurd h.1 hc⟩
  · obtain ⟨w, h1, hf⟩ := bind_some hf
    refine ⟨ι, ρ, m, w, rs, rm, h1, ?_⟩
    cases w with
    | ok w => cases hf; exact k
    | er w ρ' m' =>
      simp only [sPass] at hf
      intro σ1 ι1 H1 cls d l1 rs1 rm1 xd
      split at hf
      · rename_i hn
        cases hf
        obtain ⟨C', e1, e2, e3⟩ := xd
        rw [hn.1, mx] at e2
        cases e2
        subst e1
        have hil : i < σ1.length := by rw [rs1.1]; exact hn.2
        have hd1 : DictAt d H1 := fun dx hdx => by
          subst hdx
          obtain ⟨fs, e4, _⟩ := e3
          exact ⟨fs, e4⟩
        refine ⟨true, em, fun _ a ha => ⟨rfl, ?_⟩, fun q => by cases q⟩
        have hget : (σ1.set i (some (V.ref a)))[i]? = some (some (V.ref a)) := List.getElem?_set_self hil
        refine ⟨_, hget, .ref C, .ref C, true, rfl, .own C, hd1, k1, true, rfl, iteF ?_⟩
        refine ⟨_, hget, .ty "ValueError", .type "ValueError", true, rfl, .ty _, hd1, k2, true, rfl, iteF ?_⟩
        refine ⟨_, hget, by simp [sizeLine_eq], fun p hp => ?_⟩
        have kp : ∀ b o, H1 b = some o → upd H1 p (.tup [.ref C1, .ref C2]) b = some o := fun b o q => by
          rw [upd_ne fun z => by rw [z, hp] at q; cases q]; exact q
        refine ⟨p, [.ref C1, .ref C2], [.ref C1, .ref C2], false, rfl, upd_same, .cons (.own C1) (.cons (.own C2) .nil), fun dx hdx => ?_, k3, false, rfl, iteF ?_⟩
        · obtain ⟨fs, e⟩ := hd1 dx hdx
          exact ⟨fs, kp _ _ e⟩
        · exact k _ ι1 _ (l1.tr rm1 (le_keep kp)) ((rs_drop2 rs1 i _ _).mono (le_keep kp)) (rm_keep rm1 kp)
      · cases hf
/-- except .. as e: told = False; where e is of the class x: told = (e.f1, e.f2) -/
theorem ss_tryPair {f1 f2 : Str} {j : Nat} {nt : Str} {t1 t2 t3 v1 v2 v3 v4 v5 v6 v7 : Pos} {ctx2 : Nat} (q : XQ X.K X.mg xb x y z) (qf : XF X.K X.mg x f1 f2) (hvt : X.mg "ValueError" = none) (hit : X.mg "isinstance" = none) (hN : X.N.Nodup)
    (hb : ∀ (W : WX) (pn : List (Addr × Obj)) (xe : Value → Shared → Prop), Takes (X.tr pn xe) W → PassesOwn (model X.prog X.w) X.A X.env xe → SSxs (X.tr pn xe) W body bx)
    (hs : X.stack = X.env :: X.outer := by rfl) (hf : X.env.frame = some X.env.locals := by rfl) (hi : X.N[i]? = some n := by rfl) (hln : X.env.kindOf n = some .local := by rfl) (hj : X.N[j]? = some nt := by rfl) (hlt : X.env.kindOf nt = some .local := by rfl)
    (gb : Gl X xb := by rfl) (gx : Gl X x := by rfl) (gy : Gl X y := by rfl) (gz : Gl X z := by rfl) (gi : Gl X "isinstance" := by rfl) (gv : Gl X "ValueError" := by rfl)
    (sw : ∀ (a : Addr) (oe : Obj) (pn : List (Addr × Obj)), attributeBase (.Name n v2) f1 (X.suite a ((a, oe) :: pn)).env (eval (.Name n v2) (X.suite a ((a, oe) :: pn)).env) = eval (.Name n v2) (X.suite a ((a, oe) :: pn)).env := by intro a oe pn; rfl)
    (sw2 : ∀ (a : Addr) (oe : Obj) (pn : List (Addr × Obj)), attributeBase (.Name n v4) f2 (X.suite a ((a, oe) :: pn)).env (eval (.Name n v4) (X.suite a ((a, oe) :: pn)).env) = eval (.Name n v4) (X.suite a ((a, oe) :: pn)).env := by intro a oe pn; rfl)
    (dn : (n == ("__debug__" : Str)) = false := by decide) (dc : (n == ("__classdict__" : Str)) = false := by decide) (db : (xb == ("__debug__" : Str)) = false := by decide) (dx : (x == ("__debug__" : Str)) = false := by decide) (dy : (y == ("__debug__" : Str)) = false := by decide) (dz : (z == ("__debug__" : Str)) = false := by decide) (dij : i ≠ j := by decide) :
    SS X (.Try body [.ExceptHandler (some (.Name xb np)) (some n) [.Assign [.Name nt t1] (.Constant (.bool false) 0 t2) t3, .If (.BoolOp .And [.Call (.Name "isinstance" q1) [.Name n q2, .Name x q3] [] q4, .Call (.Name "isinstance" r1) [.Name n r2, .Name "ValueError" r3] [] r4, .UnaryOp .Not (.Call (.Name "isinstance" s1) [.Name n s2, .Tuple [.Name y s3, .Name z s4] ctx s5] [] s6) q5] u1) [.Assign [.Name nt v1] (.Tuple [.Attribute (.Name n v2) f1 v3, .Attribute (.Name n v4) f2 v5] ctx2 v6) v7] [] u2] pos'] [] [] pos) (sTry bx (sPair x f1 f2 i j)) := by
  obtain ⟨CB, C, C1, C2, mb, mx, my, mz, T, em, k1, k2, k3⟩ := q.ex
  have vis : Vis X.env.scope n := .inl hln
  have vist : Loc X.env.scope nt := .inl hlt
  have n1 := qf.n1 C mx
  have n2 := qf.n2 C mx
  refine ps_imp (ps_try_as (c := .ref CB) (i := i) (tb := fun W => tSx X.K X.mg W bx)
    (ts := fun a cls d => fun D σ H => cls = .ref C ∧ tSeq (tAsg (tC (.bl false)) (gName j)) (tIfS (tAnd (tB (tCB (rIsX X.K C a d) (tCons (tVar i) (tCons (tC (.ref C)) tNil)))) (tAnd (tB (tCB (rIsX X.K C a d) (tCons (tVar i) (tCons (tC (.ty "ValueError")) tNil)))) (tNot (tB (tCB (rIsXT X.K C a d) (tCons (tVar i) (tCons (tTup (tCons (tC (.ref C1)) (tCons (tC (.ref C2)) tNil))) tNil)))))))
      (tAsg (tTupN (tCons (tAtt C a cls d f1 (tVar i)) (tCons (tAtt C a cls d f2 (tVar i)) tNil))) (gName j)) tNext) D σ H)
    (Wout := fun _ _ _ _ => False) hs hf hN hi hln ⟨gb, db, .inl mb⟩ takes0 hb fun a oe cls d pn hz hfl => ?_) fun D σ H ⟨ι, ρ, m, r, rs, rm, hf, k⟩ => ?_
  · by_cases hc : cls = .ref C
    · subst hc
      refine pss_imp (pss_cons (ps_set (i := j) hN hj (.inl hlt) pe_bl (hf := .inr hlt)) (pss_one (ps_if (PW.pt (pw_and (pt_val (pe_callB (call_isX T hz hfl) gi hit (by decide +kernel) (pa_cons (pe_var hi vis dn dc) (pa_cons (pe_glob (v := .ref C) gx mx rfl dx) pa_nil)))) (pw_and (pt_val (pe_callB (call_isX T hz hfl) gi hit (by decide +kernel) (pa_cons (pe_var hi vis dn dc) (pa_cons (pe_bltn gv hvt (v := .ty "ValueError") (u := .type "ValueError") (by decide +kernel) rfl) pa_nil)))) (pw_and1 (pt_not (pt_val (pe_callB (call_isXT T hz hfl) gi hit (by decide +kernel) (pa_cons (pe_var hi vis dn dc) (pa_cons (pe_tup (pa_cons (pe_glob (v := .ref C1) gy my rfl dy) (pa_cons (pe_glob (v := .ref C2) gz mz rfl dz) pa_nil))) pa_nil)))))))))
        (pss_one (ps_set (i := j) hN hj (.inl hlt) (pe_tupN (pa_cons (pe_att T n1 hz hfl (pe_var hi vis dn dc) (sw a oe pn)) (pa_cons (pe_att T n2 hz hfl (pe_var hi vis dn dc) (sw2 a oe pn)) pa_nil))) (hf := .inr hlt))) pss_nil))) fun D σ H h => h.2
    · exact ⟨fun pins s σ H D I h => absurd h.1 hc⟩
  · obtain ⟨w, h1, hf⟩ := bind_some hf
    refine ⟨ι, ρ, m, w, rs, rm, h1, ?_⟩
    cases w with
    | ok w => cases hf; exact k
    | er w ρ' m' =>
      intro σ1 ι1 H1 cls d l1 rs1 rm1 xd
      have hf' : sPair x f1 f2 i j w ρ' m' = some r := hf
      unfold sPair at hf'
      by_cases hn : w.nm = x ∧ i < ρ'.length ∧ j < ρ'.length ∧ i ≠ j
      · rw [if_pos hn] at hf'
        match hfs : w.fs, hf' with
        | [(g2, d2), (g1, d1)], hf' =>
          simp only at hf'
          by_cases hg : g1 = f1 ∧ g2 = f2 ∧ f1 ≠ f2
          · rw [if_pos hg] at hf'
            cases hf'
            obtain ⟨C', e1, e2, e3⟩ := xd
            rw [hn.1, mx] at e2
            cases e2
            subst e1
            obtain ⟨rfl, rfl, hne⟩ := hg
            obtain ⟨_, hil, hjl, hij⟩ := hn
            rw [← rs1.1] at hil hjl
            cases d with
            | none => rw [hfs] at e3; cases e3
            | some dd =>
              obtain ⟨fs, e4, e5⟩ := e3
              rw [hfs] at e5
              match fs, e4, e5 with
              | [(h2, w2), (h1', w1)], e4, .cons ⟨p1, p2⟩ (.cons ⟨p3, p4⟩ .nil) =>
                simp only at p1 p3
                subst p1 p3
                have hd1 : DictAt (some dd) H1 := fun dx hdx => by cases hdx; exact ⟨_, e4⟩
                refine ⟨true, em, fun _ a ha => ⟨rfl, ?_⟩, fun q => by cases q⟩
                have hget : ((σ1.set i (some (V.ref a))).set j (some (V.bl false)))[i]? = some (some (V.ref a)) := by
                  rw [List.getElem?_set_ne (Ne.symm hij), List.getElem?_set_self hil]
                refine ⟨_, hget, .ref C, .ref C, true, rfl, .own C, hd1, k1, true, rfl, iteT ?_⟩
                refine ⟨_, hget, .ty "ValueError", .type "ValueError", true, rfl, .ty _, hd1, k2, true, rfl, iteT ?_⟩
                refine ⟨_, hget, by simp [sizeLine_eq], fun p hp => ?_⟩
                have kp : ∀ b o, H1 b = some o → upd H1 p (.tup [.ref C1, .ref C2]) b = some o := fun b o q => by
                  rw [upd_ne fun z => by rw [z, hp] at q; cases q]; exact q
                refine ⟨p, [.ref C1, .ref C2], [.ref C1, .ref C2], false, rfl, upd_same, .cons (.own C1) (.cons (.own C2) .nil), fun dx hdx => ?_, k3, false, rfl, iteT ?_⟩
                · obtain ⟨fs, e⟩ := hd1 dx hdx
                  exact ⟨fs, kp _ _ e⟩
                refine ⟨_, hget, rfl, rfl, dd, _, w1, rfl, kp _ _ e4, ?_, ?_⟩
                · simp [List.lookup, show (g1 == g2) = false by simpa using hne]
                refine ⟨_, hget, rfl, rfl, dd, _, w2, rfl, kp _ _ e4, by simp [List.lookup], by simp [sizeLine_eq], fun p2' o2 hp2 ho2 => ?_⟩
                have kp2 : ∀ b o, H1 b = some o → upd (upd H1 p (.tup [.ref C1, .ref C2])) p2' (.frz o2 (.tup [w1, w2])) b = some o := fun b o q => by
                  rw [upd_ne fun z => by rw [z] at q; rw [kp _ _ q] at hp2; cases hp2]; exact kp _ _ q
                refine k _ ι1 _ (l1.tr rm1 (le_keep kp2)) ?_ (rm_keep rm1 kp2)
                have rs2 := rs1.mono (le_keep (ι := ι1) kp2)
                refine ⟨by simpa using rs2.1, fun t dv e => ?_⟩
                by_cases ti : t = i
                · subst ti
                  rw [List.getElem?_set_self (by rw [List.length_set, ← rs1.1]; exact hil)] at e; cases e
                · rw [List.getElem?_set_ne (Ne.symm ti)] at e ⊢
                  by_cases tj : t = j
                  · subst tj
                    rw [List.getElem?_set_self (by rw [← rs1.1]; exact hjl)] at e
                    cases e
                    refine ⟨.ref p2', List.getElem?_set_self (by simpa using hjl), .tup (.inl ⟨o2, upd_same, ho2⟩) (.cons (p4.mono (le_keep kp2)) (.cons (p2.mono (le_keep kp2)) .nil))⟩
                  · rw [List.getElem?_set_ne (Ne.symm tj)] at e ⊢
                    rw [List.getElem?_set_ne (Ne.symm tj), List.getElem?_set_ne (Ne.symm ti)]
                    exact rs2.2 t dv e
          · rw [if_neg hg] at hf'; cases hf'
      · rw [if_neg hn] at hf'; cases hf'
end
end Q
/-! the reckoning machine: what may raise -/
namespace Q
open PySem L2
def WXo (o : Option (Rz × Mem)) (Q : Rz → Mem → Prop) : Prop := ∃ r M, o = some (r, M) ∧ Q r M
def WXe (e : Ex) (ρ : Env) (M : Mem) (Q : Rz → Mem → Prop) : Prop := ∃ r M', e ρ M = some (r, M') ∧ Q r M'
def WXs (s : Sx) (ρ : Env) (M : Mem) (Q : Rx → Prop) : Prop := ∃ r, s ρ M = some r ∧ Q r
def WXl (g : G) (body : Sx) (lv : List (Nat × Ob)) (xs : List D) (ρ : Env) (M : Mem) (Q : Rx → Prop) : Prop := ∃ r, forX g body lv xs ρ M = some r ∧ Q r
def kXL (Q : Rx → Prop) (r : R) : Prop := Q (.ok r)
def kXSeq (b : Sx) (Q : Rx → Prop) (r : Rx) : Prop := match r with | .ok (.nx ρ M) => WXs b ρ M Q | r => Q r
def kXIf (a b : Sx) (ρ : Env) (Q : Rx → Prop) (c : Bool) (M : Mem) : Prop := match c with | true => WXs a ρ M Q | false => WXs b ρ M Q
def kXRz (nm : Str) (ns : List Str) (ρ : Env) (Q : Rx → Prop) (ds : List D) (M : Mem) : Prop := ds.length = ns.length ∧ Q (.er ⟨nm, (ns.zip ds).reverse⟩ ρ M)
def kXCall (F : FnX) (Q : Rz → Mem → Prop) (ds : List D) (M : Mem) : Prop := WXo (F ds M) Q
def kXSet (i : Nat) (ρ : Env) (Q : Rx → Prop) (z : Rz) (M : Mem) : Prop := match z with
  | .ok r => Q (.ok (.nx (ρ.set i (some (val r M).1)) (val r M).2))
  | .er x => Q (.er x ρ M)
def kXPut (g : G) (ρ : Env) (Q : Rx → Prop) (z : Rz) (M : Mem) : Prop := match z with
  | .ok r => WG g (val r M).1 ρ (val r M).2 fun ρ' M' => Q (.ok (.nx ρ' M'))
  | .er x => Q (.er x ρ M)
def kXDo (ρ : Env) (Q : Rx → Prop) (z : Rz) (M : Mem) : Prop := match z with
  | .ok _ => Q (.ok (.nx ρ M))
  | .er x => Q (.er x ρ M)
def kTry (hd : Xd → S) (Q : R → Prop) (r : Rx) : Prop := match r with
  | .ok r => Q r
  | .er x ρ M => WS (hd x) ρ M Q
def kXok (Q : Rz → Mem → Prop) (x : Out) (M : Mem) : Prop := Q (.ok x) M
def kFnX (M0 : Mem) (Q : Rz → Mem → Prop) (r : Rx) : Prop := match r with
  | .ok r => kFn M0 (kXok Q) r
  | .er x _ M => (x.fs.all fun p => atomD p.2) = true ∧ Q (.er x) (shut M0 (.v .non) M).2
def kOk (Q : PO2) (z : Rz) (M : Mem) : Prop := match z with
  | .ok r => Q r M
  | .er _ => False
def kXFor (g : G) (s : Sx) (ρ : Env) (Q : Rx → Prop) (x : Src) (M : Mem) : Prop := WXl g s x.live x.items ρ M Q
section
variable {ρ : Env} {M M0 : Mem} {Q : Rx → Prop} {QZ : Rz → Mem → Prop} {QS : R → Prop} {QO : PO2} {f : S} {a b s : Sx} {c : B} {nm : Str} {ns : List Str} {fr : A} {x : Xd} {d : D} {ds : List D} {F : FnX} {g : G} {fx : Ex} {hd : Xd → S} {it : I}
theorem wxs_L : WXs (xL f) ρ M Q ↔ WS f ρ M (kXL Q) := by
  unfold WXs WS xL
  constructor
  · rintro ⟨r, e, p⟩
    obtain ⟨r', e1, rfl⟩ := Option.map_eq_some_iff.mp e
    exact ⟨r', e1, p⟩
  · rintro ⟨r, e, p⟩
    exact ⟨.ok r, by rw [e]; rfl, p⟩
theorem kXL_eq {r : R} : kXL Q r ↔ Q (.ok r) := Iff.rfl
theorem wxs_seq : WXs (xSeq a b) ρ M Q ↔ WXs a ρ M (kXSeq b Q) := by
  unfold WXs xSeq; rw [bexS]; refine exists_congr fun x => and_congr_right fun _ => ?_
  unfold kXSeq
  cases x with
  | ok r => cases r <;> first | exact Iff.rfl | exact sex1
  | er => exact sex1
theorem kXSeq_nx : kXSeq b Q (.ok (.nx ρ M)) ↔ WXs b ρ M Q := Iff.rfl
theorem kXSeq_rt {r : Out} : kXSeq b Q (.ok (.rt r M)) ↔ Q (.ok (.rt r M)) := Iff.rfl
theorem kXSeq_bk : kXSeq b Q (.ok (.bk ρ M)) ↔ Q (.ok (.bk ρ M)) := Iff.rfl
theorem kXSeq_ct : kXSeq b Q (.ok (.ct ρ M)) ↔ Q (.ok (.ct ρ M)) := Iff.rfl
theorem kXSeq_er : kXSeq b Q (.er x ρ M) ↔ Q (.er x ρ M) := Iff.rfl
theorem wxs_if : WXs (xIf c a b) ρ M Q ↔ WB c ρ M (kXIf a b ρ Q) := by
  unfold WXs WB xIf; rw [bex]; refine exists_congr fun x => exists_congr fun y => and_congr_right fun _ => ?_
  unfold kXIf; cases x <;> exact Iff.rfl
theorem kXIf_t : kXIf a b ρ Q true M ↔ WXs a ρ M Q := Iff.rfl
theorem kXIf_f : kXIf a b ρ Q false M ↔ WXs b ρ M Q := Iff.rfl
theorem wxs_rz0 : WXs (xRz0 nm) ρ M Q ↔ Q (.er ⟨nm, []⟩ ρ M) := sex1
theorem wxs_rz : WXs (xRz nm ns fr) ρ M Q ↔ WA fr ρ M (kXRz nm ns ρ Q) := by
  unfold WXs WA xRz; rw [bex]; refine exists_congr fun x => exists_congr fun y => and_congr_right fun _ => ?_
  unfold kXRz
  constructor
  · rintro ⟨r, e, p⟩
    simp only at e
    split at e
    · rename_i h; cases e; exact ⟨h, p⟩
    · cases e
  · rintro ⟨h, p⟩
    exact ⟨_, by simp only [if_pos h], p⟩
theorem kXRz_eq : kXRz nm ns ρ Q ds M ↔ ds.length = ns.length ∧ Q (.er ⟨nm, (ns.zip ds).reverse⟩ ρ M) := Iff.rfl
theorem wxs_set {i : Nat} : WXs (xSet i fx) ρ M Q ↔ WXe fx ρ M (kXSet i ρ Q) := by
  unfold WXs WXe xSet; rw [bex]; refine exists_congr fun x => exists_congr fun y => and_congr_right fun _ => ?_
  unfold kXSet; cases x <;> exact sex1
theorem kXSet_v {i : Nat} : kXSet i ρ Q (.ok (.v d)) M ↔ Q (.ok (.nx (ρ.set i (some d)) M)) := Iff.rfl
theorem kXSet_o {i : Nat} {o : Ob} : kXSet i ρ Q (.ok (.o o)) M ↔ Q (.ok (.nx (ρ.set i (some (.ref M.length))) (M ++ [o]))) := Iff.rfl
theorem kXSet_er {i : Nat} : kXSet i ρ Q (.er x) M ↔ Q (.er x ρ M) := Iff.rfl
theorem wxs_put : WXs (xPut fx g) ρ M Q ↔ WXe fx ρ M (kXPut g ρ Q) := by
  unfold WXs WXe xPut; rw [bex]; refine exists_congr fun x => exists_congr fun y => and_congr_right fun _ => ?_
  unfold kXPut
  cases x with
  | ok r => simp only; rw [bex]; unfold WG; refine exists_congr fun x => exists_congr fun y => and_congr_right fun _ => sex1
  | er => exact sex1
def kXNx (Q : Rx → Prop) (ρ : Env) (M : Mem) : Prop := Q (.ok (.nx ρ M))
theorem kXPut_v : kXPut g ρ Q (.ok (.v d)) M ↔ WG g d ρ M (kXNx Q) := Iff.rfl
theorem kXPut_o {o : Ob} : kXPut g ρ Q (.ok (.o o)) M ↔ WG g (.ref M.length) ρ (M ++ [o]) (kXNx Q) := Iff.rfl
theorem kXPut_er : kXPut g ρ Q (.er x) M ↔ Q (.er x ρ M) := Iff.rfl
theorem kXNx_eq : kXNx Q ρ M ↔ Q (.ok (.nx ρ M)) := Iff.rfl
theorem wxs_do : WXs (xDo fx) ρ M Q ↔ WXe fx ρ M (kXDo ρ Q) := by
  unfold WXs WXe xDo; rw [bex]; refine exists_congr fun x => exists_congr fun y => and_congr_right fun _ => ?_
  unfold kXDo; cases x <;> exact sex1
theorem kXDo_ok {r : Out} : kXDo ρ Q (.ok r) M ↔ Q (.ok (.nx ρ M)) := Iff.rfl
theorem kXDo_er : kXDo ρ Q (.er x) M ↔ Q (.er x ρ M) := Iff.rfl
theorem wxe_call : WXe (eCallX F fr) ρ M QZ ↔ WA fr ρ M (kXCall F QZ) := by
  unfold WXe WA eCallX kXCall WXo; rw [bex2]
theorem kXCall_eq : kXCall F QZ ds M ↔ WXo (F ds M) QZ := Iff.rfl
theorem ws_try : WS (sTry a hd) ρ M QS ↔ WXs a ρ M (kTry hd QS) := by
  unfold WS WXs sTry; rw [bexS]; refine exists_congr fun x => and_congr_right fun _ => ?_
  unfold kTry; cases x <;> first | exact Iff.rfl | exact sex1
theorem kTry_ok {r : R} : kTry hd QS (.ok r) ↔ QS r := Iff.rfl
theorem kTry_er : kTry hd QS (.er x ρ M) ↔ WS (hd x) ρ M QS := Iff.rfl
theorem wxo_fn {np n : Nat} (h : ds.length = np) : WXo (fnX np n s ds M) QZ ↔ WXs s (ds.map some ++ List.replicate (n - np) none) M (kFnX M QZ) := by
  unfold WXo WXs fnX
  rw [if_pos h]
  constructor
  · rintro ⟨r, M', e, p⟩
    obtain ⟨x, e1, e2⟩ := bind_some e
    refine ⟨x, e1, ?_⟩
    unfold kFnX
    cases x with
    | ok x =>
      cases x with
      | rt v m' => cases e2; exact p
      | nx v m' => cases e2; exact p
      | bk v m' => cases e2
      | ct v m' => cases e2
    | er x ρ' m' =>
      simp only at e2
      split at e2
      · rename_i h2; cases e2; exact ⟨h2, p⟩
      · cases e2
  · rintro ⟨x, e1, p⟩
    cases x with
    | ok x =>
      cases x with
      | rt v m' => exact ⟨_, _, by rw [e1]; rfl, p⟩
      | nx v m' => exact ⟨_, _, by rw [e1]; rfl, p⟩
      | bk v m' => exact p.elim
      | ct v m' => exact p.elim
    | er x ρ' m' => exact ⟨_, _, by rw [e1]; simp only [Option.bind_some, if_pos p.1], p.2⟩
theorem kFnX_ok {r : R} : kFnX M0 QZ (.ok r) ↔ kFn M0 (kXok QZ) r := Iff.rfl
theorem kXok_eq {r : Out} : kXok QZ r M ↔ QZ (.ok r) M := Iff.rfl
theorem kFnX_er : kFnX M0 QZ (.er x ρ M) ↔ (x.fs.all fun p => atomD p.2) = true ∧ QZ (.er x) (shut M0 (.v .non) M).2 := Iff.rfl
theorem wo_okFn : WO (okFn F ds M) QO ↔ WXo (F ds M) (kOk QO) := by
  unfold WO WXo okFn
  constructor
  · rintro ⟨r, M', e, p⟩
    split at e
    · rename_i r1 m1 e1; cases e; exact ⟨_, _, e1, p⟩
    · cases e
  · rintro ⟨r, M', e, p⟩
    cases r with
    | ok r => exact ⟨r, M', by rw [e], p⟩
    | er x => exact p.elim
theorem kOk_ok {r : Out} : kOk QO (.ok r) M ↔ QO r M := Iff.rfl
theorem wxs_for : WXs (xFor it g s) ρ M Q ↔ WI it ρ M (kXFor g s ρ Q) := by
  unfold WXs WI xFor; rw [bex]; exact Iff.rfl
theorem kXFor_eq {xs : List D} {lv : List (Nat × Ob)} : kXFor g s ρ Q ⟨xs, lv⟩ M ↔ WXl g s lv xs ρ M Q := Iff.rfl
theorem wxl_nil {lv : List (Nat × Ob)} (h : chk lv M) (q : Q (.ok (.nx ρ M))) : WXl g s lv [] ρ M Q := ⟨_, by unfold forX; rw [if_pos h], q⟩
/-- a turn, and what comes behind it -/
def kXTurn (g : G) (s : Sx) (lv : List (Nat × Ob)) (xs : List D) (Q : Rx → Prop) (r : Rx) : Prop := match r with
  | .ok (.nx ρ M) => WXl g s lv xs ρ M Q
  | .ok (.ct ρ M) => WXl g s lv xs ρ M Q
  | .ok (.bk ρ M) => Q (.ok (.nx ρ M))
  | .ok (.rt x M) => Q (.ok (.rt x M))
  | .er x ρ M => Q (.er x ρ M)
def kXG (s : Sx) (Q : Rx → Prop) (ρ : Env) (M : Mem) : Prop := WXs s ρ M Q
theorem wxl_cons {lv : List (Nat × Ob)} {y : D} {xs : List D} (h : chk lv M) (q : WG g y ρ M (kXG s (kXTurn g s lv xs Q))) : WXl g s lv (y :: xs) ρ M Q := by
  obtain ⟨ρ1, M1, e1, r, e2, p⟩ := q
  unfold WXl forX
  rw [if_pos h, e1]
  simp only [Option.bind_some, e2]
  cases r with
  | ok r =>
    cases r with
    | nx ρ' M' => exact p
    | ct ρ' M' => exact p
    | bk ρ' M' => exact ⟨_, rfl, p⟩
    | rt x M' => exact ⟨_, rfl, p⟩
  | er x ρ' M' => exact ⟨_, rfl, p⟩
theorem kXG_eq : kXG s Q ρ M ↔ WXs s ρ M Q := Iff.rfl
theorem kXTurn_nx {lv : List (Nat × Ob)} {xs : List D} : kXTurn g s lv xs Q (.ok (.nx ρ M)) ↔ WXl g s lv xs ρ M Q := Iff.rfl
theorem kXTurn_rt {lv : List (Nat × Ob)} {xs : List D} {r : Out} : kXTurn g s lv xs Q (.ok (.rt r M)) ↔ Q (.ok (.rt r M)) := Iff.rfl
theorem kXTurn_er {lv : List (Nat × Ob)} {xs : List D} : kXTurn g s lv xs Q (.er x ρ M) ↔ Q (.er x ρ M) := Iff.rfl
end
def wxx := And.intro @wxs_L (And.intro @kXL_eq (And.intro @wxs_seq (And.intro @kXSeq_nx (And.intro @kXSeq_rt (And.intro @kXSeq_bk (And.intro @kXSeq_ct (And.intro @kXSeq_er (And.intro @wxs_if (And.intro @kXIf_t (And.intro @kXIf_f (And.intro @wxs_rz0 (And.intro @wxs_rz (And.intro @kXRz_eq (And.intro @wxs_set (And.intro @kXSet_v (And.intro @kXSet_o (And.intro @kXSet_er (And.intro @wxs_put (And.intro @kXPut_v (And.intro @kXPut_o (And.intro @kXPut_er (And.intro @kXNx_eq (And.intro @wxs_do (And.intro @kXDo_ok (And.intro @kXDo_er (And.intro @wxe_call (And.intro @kXCall_eq (And.intro @ws_try (And.intro @kTry_ok (And.intro @kTry_er (And.intro @kFnX_ok (And.intro @kXok_eq (And.intro @kFnX_er (And.intro @wo_okFn (And.intro @kOk_ok (And.intro @wxs_for (And.intro @kXFor_eq (And.intro @kXG_eq (And.intro @kXTurn_nx (And.intro @kXTurn_rt @kXTurn_er))))))))))))))))))))))))))))))))))))))))
theorem fx_1 {M : Mem} {Q : Rz → Mem → Prop} {n : Nat} {s : Sx} {d : D} : WXo (fnX 1 n s [d] M) Q ↔ WXs s (some d :: List.replicate (n - 1) none) M (kFnX M Q) := wxo_fn rfl
theorem fx_2 {M : Mem} {Q : Rz → Mem → Prop} {n : Nat} {s : Sx} {d e : D} : WXo (fnX 2 n s [d, e] M) Q ↔ WXs s (some d :: some e :: List.replicate (n - 2) none) M (kFnX M Q) := wxo_fn rfl
end Q
namespace Q
open PySem L2
noncomputable def _law_begin_C1 (ρ : Env) (m : Mem) : Option (Bool × Mem) := (bOf (eBin geF (eUn absF (eVar 2)) (eBin powF (eC (.int 10)) (eC (.int 18))))) ρ m
theorem w__law_begin_C1 {ρ : Env} {M : Mem} {Q : Bool → Mem → Prop} : WB _law_begin_C1 ρ M Q ↔ WB (bOf (eBin geF (eUn absF (eVar 2)) (eBin powF (eC (.int 10)) (eC (.int 18))))) ρ M Q := Iff.rfl
noncomputable def _law_begin_E1 (ρ : Env) (m : Mem) : Option (Out × Mem) := (eUn absF (eVar 2)) ρ m
theorem w__law_begin_E1 {ρ : Env} {M : Mem} {Q : PO2} : WE _law_begin_E1 ρ M Q ↔ WE (eUn absF (eVar 2)) ρ M Q := Iff.rfl
noncomputable def _law_begin_F1 (ρ : Env) (m : Mem) : Option R := (sSet 1 (eBin modF (eBin addF (eBin addF (eBin mulF (eVar 1) (eC (.int 6364136223846793))) (eBin modF (eVar 2) (eBin powF (eC (.int 10)) (eC (.int 30))))) (eC (.int 1442695040888963))) (eC (.int 2305843009213693951)))) ρ m
theorem w__law_begin_F1 {ρ : Env} {M : Mem} {Q : R → Prop} : WS _law_begin_F1 ρ M Q ↔ WS (sSet 1 (eBin modF (eBin addF (eBin addF (eBin mulF (eVar 1) (eC (.int 6364136223846793))) (eBin modF (eVar 2) (eBin powF (eC (.int 10)) (eC (.int 30))))) (eC (.int 1442695040888963))) (eC (.int 2305843009213693951)))) ρ M Q := Iff.rfl
noncomputable def m__law_begin : Fn := fnD 1 3
    (sSeq (sSet 1 (eBin addF (eUn lenF (eVar 0)) (eC (.int 3))))
    (sSeq (sFor (iE (eSl (eVar 0) oNone (oSome (eC (.int 63))))) (gT (.nm 2)) _law_begin_F1)
    (sRet (eLst (aCons (eComp (iE (eSl (eVar 0) oNone (oSome (eC (.int 63))))) [2] (.nm 2) _law_begin_C1 _law_begin_E1) (aCons (eVar 1) aNil))))))
noncomputable def _law_next_T1 (ρ : Env) (m : Mem) : Option (Bool × Mem) := (bAnd (bOf (eBin neF (eBin ixF (eVar 0) (eC (.int 0))) (eLst aNil))) (bOf (eBin eqF (eBin ixF (eBin ixF (eVar 0) (eC (.int 0))) (eC (.int 0))) (eC (.int 0))))) ρ m
theorem w__law_next_T1 {ρ : Env} {M : Mem} {Q : Bool → Mem → Prop} : WB _law_next_T1 ρ M Q ↔ WB (bAnd (bOf (eBin neF (eBin ixF (eVar 0) (eC (.int 0))) (eLst aNil))) (bOf (eBin eqF (eBin ixF (eBin ixF (eVar 0) (eC (.int 0))) (eC (.int 0))) (eC (.int 0))))) ρ M Q := Iff.rfl
noncomputable def _law_next_W1 (ρ : Env) (m : Mem) : Option R := (sDo (eMt1 "list" popF (eBin ixF (eVar 0) (eC (.int 0))) (eC (.int 0)))) ρ m
theorem w__law_next_W1 {ρ : Env} {M : Mem} {Q : R → Prop} : WS _law_next_W1 ρ M Q ↔ WS (sDo (eMt1 "list" popF (eBin ixF (eVar 0) (eC (.int 0))) (eC (.int 0)))) ρ M Q := Iff.rfl
noncomputable def m__law_next : Fn := fnD 2 3
    (sSeq (sWhile _law_next_T1 _law_next_W1)
    (sSeq (sIf (bOf (eBin neF (eBin ixF (eVar 0) (eC (.int 0))) (eLst aNil))) (sSeq (sSet 2 (eBin modF (eBin ixF (eBin ixF (eVar 0) (eC (.int 0))) (eC (.int 0))) (eVar 1)))
    (sSeq (sPut (eBin divF (eBin ixF (eBin ixF (eVar 0) (eC (.int 0))) (eC (.int 0))) (eVar 1)) (gIx (eBin ixF (eVar 0) (eC (.int 0))) (eC (.int 0))))
    (sRet (eVar 2)))) sNil)
    (sSeq (sPut (eBin modF (eBin addF (eBin mulF (eBin ixF (eVar 0) (eC (.int 1))) (eC (.int 6364136223846793))) (eC (.int 1442695040888963))) (eC (.int 2305843009213693951))) (gIx (eVar 0) (eC (.int 1))))
    (sRet (eBin modF (eBin divF (eBin modF (eBin mulF (eBin ixF (eVar 0) (eC (.int 1))) (eBin ixF (eVar 0) (eC (.int 1)))) (eC (.int 2305843009213693921))) (eC (.int 65537))) (eVar 1))))))
/-! ### the state: a list of a list of cells and a seed -/
def S1 (a b : Nat) (M : Mem) : Prop := ∃ (cs : List Int) (s : Int), M[a]? = some (.lst [.ref b, .int s]) ∧ M[b]? = some (.lst (cs.map .int)) ∧ (∀ c ∈ cs, 0 ≤ c) ∧ cs.length ≤ 1000 ∧ 0 ≤ s ∧ s < 2305843009213693951 ∧ a ≠ b
theorem okL_ints (n : Nat) : ∀ cs : List Int, okL n (cs.map .int) = true
  | [] => by simp [okL]
  | c :: r => by simp [okL, okD, okL_ints n r]
theorem get_set {M : Mem} {b : Nat} {o o' : Ob} (h : M[b]? = some o) : (M.set b o')[b]? = some o' := by
  rw [List.getElem?_set_self (List.getElem?_eq_some_iff.mp h).1]
theorem fr_set {M : Mem} {b : Nat} {o : Ob} {ab : List Nat} (h : b ∈ ab) : Fr ab M (M.set b o) := ⟨by simp, fun i hi => by rw [List.getElem?_set_ne]; intro e; subst e; exact hi h⟩
theorem next_skip {a b n : Nat} {s : Int} : ∀ (cs : List Int) (M : Mem) (k : Nat) (x : Option D), cs.length < k → M[a]? = some (.lst [.ref b, .int s]) → M[b]? = some (.lst (cs.map .int)) → a ≠ b →
    ∃ ds M', (∀ c ∈ ds, c ∈ cs) ∧ ds.length ≤ cs.length ∧ (ds = [] ∨ ∃ c r, ds = c :: r ∧ c ≠ 0) ∧ M'[a]? = some (.lst [.ref b, .int s]) ∧ M'[b]? = some (.lst (ds.map .int)) ∧ Fr [a, b] M M' ∧
      whL _law_next_T1 _law_next_W1 k [some (.ref a), some (.int n), x] M = some (.nx [some (.ref a), some (.int n), x] M')
  | cs, M, 0, x, hk, _, _, _ => by omega
  | [], M, k + 1, x, hk, h1, h2, hab => ⟨[], M, by simp, by simp, .inl rfl, h1, h2, Fr.refl _ _, by
      simp [whL, _law_next_T1, _law_next_W1, ixF, seqOf, h1, h2, atI, ixN, neF, form, okD, okL, D.eqb, eqbL]⟩
  | c :: cs, M, k + 1, x, hk, h1, h2, hab => by
    by_cases hc : c = 0
    · subst hc
      have h3 : (M.set b (.lst (cs.map .int)))[a]? = some (.lst [.ref b, .int s]) := by rw [List.getElem?_set_ne (Ne.symm hab)]; exact h1
      obtain ⟨ds, M', q1, q5, q2, q3, q4, fr, e⟩ := next_skip (n := n) cs (M.set b (.lst (cs.map .int))) k x (by simp at hk; omega) h3 (get_set h2) hab
      refine ⟨ds, M', fun d hd => by simp [q1 d hd], by simp; omega, q2, q3, q4, (fr_set (by simp)).trans fr, ?_⟩
      rw [← e]
      simp [whL, _law_next_T1, _law_next_W1, ixF, seqOf, h1, h2, atI, ixN, neF, eqF, form, okD, okL, okL_ints, D.eqb, eqbL, isTyB, popF, seqIndex?, i63_of]
    · refine ⟨c :: cs, M, fun _ h => h, by simp, .inr ⟨c, cs, rfl, hc⟩, h1, h2, Fr.refl _ _, ?_⟩
      simp [whL, _law_next_T1, _law_next_W1, ixF, seqOf, h1, h2, atI, ixN, neF, eqF, form, okD, okL, okL_ints, D.eqb, eqbL, hc]
theorem next_draw {a b : Nat} (M : Mem) (n : Nat) (h : S1 a b M) (hn : 0 < n) (hn2 : n ≤ 100000) : ∃ (r : Nat) (M' : Mem), m__law_next [.ref a, .int (n : Int)] M = some (.v (.int (r : Int)), M') ∧ r < n ∧ S1 a b M' ∧ Fr [a, b] M M' := by
  obtain ⟨cs, s, h1, h2, hc, hcl, hs0, hs1, hab⟩ := h
  obtain ⟨ds, M1, q1, q5, q2, q3, q4, fr, e⟩ := next_skip (n := n) cs M fuel none (by show cs.length < 1000000000; omega) h1 h2 hab
  have hb1 : b < M1.length := (List.getElem?_eq_some_iff.mp q4).1
  have ha1 : a < M1.length := (List.getElem?_eq_some_iff.mp q3).1
  have lo : ∀ (M2 : Mem) (d : D), Fr [a, b] M M2 → (∀ (ds : List Int), M2[b]? = some (.lst (ds.map .int)) → ∀ s : Int, M2[a]? = some (.lst [.ref b, .int s]) → d.lo M.length → shut M (.v d) M2 = (.v d, M2)) := by
    intro M2 d f2 ds' g1 s' g2 hd
    have ok : okM M M2 := fun i o hi ho => by
      by_cases i1 : i = a
      · subst i1; rw [g2] at ho; cases ho; right; show loL _ _; simp; rw [← fr.1]; exact hb1
      · by_cases i2 : i = b
        · subst i2; rw [g1] at ho; cases ho; right; show loL _ _; rw [loL_iff]; intro d hd; simp at hd; obtain ⟨c, _, rfl⟩ := hd; simp
        · left; rw [← f2.2 i (by simp [i1, i2])]; exact ho
    unfold shut
    rw [if_pos ok]
    simp only [if_pos hd]
    rw [← f2.1]; simp
  rcases q2 with rfl | ⟨c, r, rfl, hc0⟩
  · -- by the seed
    have hs2 : (s * 6364136223846793 + 1442695040888963) % 2305843009213693951 < 2305843009213693951 := Int.emod_lt_of_pos _ (by omega)
    have hs3 : 0 ≤ (s * 6364136223846793 + 1442695040888963) % 2305843009213693951 := Int.emod_nonneg _ (by omega)
    generalize hS : (s * 6364136223846793 + 1442695040888963) % 2305843009213693951 = s2 at hs2 hs3
    have hr : 0 ≤ s2 * s2 % 2305843009213693921 / 65537 % (n : Int) := Int.emod_nonneg _ (by omega)
    have hr2 : s2 * s2 % 2305843009213693921 / 65537 % (n : Int) < (n : Int) := Int.emod_lt_of_pos _ (by omega)
    have g1 : (M1.set a (.lst [.ref b, .int s2]))[a]? = some (.lst [.ref b, .int s2]) := get_set q3
    have g2 : (M1.set a (.lst [.ref b, .int s2]))[b]? = some (.lst (([] : List Int).map .int)) := by rw [List.getElem?_set_ne hab]; exact q4
    have f2 : Fr [a, b] M (M1.set a (.lst [.ref b, .int s2])) := fr.trans (fr_set (by simp))
    refine ⟨(s2 * s2 % 2305843009213693921 / 65537 % (n : Int)).toNat, M1.set a (.lst [.ref b, .int s2]), ?_, by omega, ⟨[], s2, g1, g2, by simp, by simp, hs3, hs2, hab⟩, f2⟩
    rw [Int.toNat_of_nonneg hr]
    unfold m__law_next fnD
    simp only [List.length_cons, List.length_nil, if_true, List.map_cons, List.map_nil, List.replicate, List.cons_append, List.nil_append, sSeq, sWhile, e, Option.bind_some]
    have hm : mulOk s 6364136223846793 := .inr (by omega)
    have hm2 : mulOk s2 s2 := .inl (by omega)
    have hn' : (0 : Int) < n := by omega
    simp [ixF, seqOf, q3, q4, atI, ixN, neF, form, okD, okL, D.eqb, eqbL, stoF, hm, hS, g1, hm2, hn', hn]
    exact lo _ (.int _) f2 [] g2 s2 g1 (by simp)
  · have hc1 : 0 ≤ c := hc c (q1 c (by simp))
    have hr : 0 ≤ c % (n : Int) := Int.emod_nonneg _ (by omega)
    have hr2 : c % (n : Int) < (n : Int) := Int.emod_lt_of_pos _ (by omega)
    have g1 : (M1.set b (.lst ((c / (n : Int) :: r).map .int)))[b]? = some (.lst ((c / (n : Int) :: r).map .int)) := get_set q4
    have g2 : (M1.set b (.lst ((c / (n : Int) :: r).map .int)))[a]? = some (.lst [.ref b, .int s]) := by rw [List.getElem?_set_ne (Ne.symm hab)]; exact q3
    have f2 : Fr [a, b] M (M1.set b (.lst ((c / (n : Int) :: r).map .int))) := fr.trans (fr_set (by simp))
    refine ⟨(c % (n : Int)).toNat, M1.set b (.lst ((c / (n : Int) :: r).map .int)), ?_, by omega, ⟨c / (n : Int) :: r, s, g2, g1, fun d hd => ?_, by simp at q5 ⊢; omega, hs0, hs1, hab⟩, f2⟩
    · rw [Int.toNat_of_nonneg hr]
      unfold m__law_next fnD
      simp only [List.length_cons, List.length_nil, if_true, List.map_cons, List.map_nil, List.replicate, List.cons_append, List.nil_append, sSeq, sWhile, e, Option.bind_some]
      have hn' : (0 : Int) < n := by omega
      have hn3 : (n : Int) < 1073741824 := by omega
      have hn4 : n < 1073741824 := by omega
      simp [ixF, seqOf, q3, q4, atI, ixN, neF, form, okD, okL, okL_ints, D.eqb, eqbL, stoF, hn', hn2, hn]
      exact lo _ (.int _) f2 _ g1 s g2 (by simp)
    · rcases List.mem_cons.mp hd with rfl | hd
      · exact Int.ediv_nonneg hc1 (by omega)
      · exact hc d (q1 d (by simp [hd]))
theorem gen1 (a b : Nat) : Gen (.ref a) [a, b] (S1 a b) m__law_next where
  next := fun M n h hn hn2 => next_draw M n h hn hn2
  keep := fun M M' ⟨cs, s, h1, h2, h3⟩ hk => ⟨cs, s, by rw [hk a (by simp)]; exact h1, by rw [hk b (by simp)]; exact h2, h3⟩
  lo := fun M ⟨cs, s, h1, h2, h3⟩ i hi o ho => by
    simp at hi
    rcases hi with rfl | rfl
    · rw [h1] at ho; cases ho; show loL _ _; simp; exact (List.getElem?_eq_some_iff.mp h2).1
    · rw [h2] at ho; cases ho; show loL _ _; rw [loL_iff]; intro d hd; simp at hd; obtain ⟨c, _, rfl⟩ := hd; simp
  ins := fun M ⟨cs, s, h1, h2, h3⟩ i hi => by
    simp at hi
    rcases hi with rfl | rfl
    · exact (List.getElem?_eq_some_iff.mp h1).1
    · exact (List.getElem?_eq_some_iff.mp h2).1
  sto := fun M ⟨cs, s, h1, h2, h3⟩ => by simp; exact (List.getElem?_eq_some_iff.mp h1).1
noncomputable def m__law_goal : Fn := fnD 5 6
    (sSeq (sIf (bOf (eBin eqF (eVar 1) (eC (.int 0)))) (sRet (eCall m__law_next (aCons (eVar 0) (aCons (eVar 2) aNil)))) sNil)
    (sSeq (sIf (bOf (eBin eqF (eVar 1) (eC (.int 1)))) (sRet (eBin modF (eBin addF (eVar 3) (eCall m__law_next (aCons (eVar 0) (aCons (eC (.int 3)) aNil)))) (eVar 2))) sNil)
    (sSeq (sIf (bOf (eBin eqF (eVar 1) (eC (.int 2)))) (sSeq (sSet 5 (eBin divF (eVar 2) (eC (.int 2))))
    (sSeq (sIf (bOf (eBin ltF (eVar 3) (eVar 5))) (sRet (eCall m__law_next (aCons (eVar 0) (aCons (eVar 5) aNil)))) sNil)
    (sRet (eBin addF (eVar 5) (eCall m__law_next (aCons (eVar 0) (aCons (eBin subF (eVar 2) (eVar 5)) aNil))))))) sNil)
    (sSeq (sIf (bOf (eBin eqF (eVar 4) (eC (.int 0)))) (sRet (eBin modF (eBin addF (eVar 3) (eC (.int 1))) (eVar 2))) sNil)
    (sSeq (sIf (bOf (eBin eqF (eVar 1) (eC (.int 3)))) (sRet (eBin ixF (eLst (aCons (eVar 3) (aCons (eC (.int 0)) aNil))) (eUn intF (eBin eqF (eVar 3) (eBin subF (eVar 2) (eC (.int 1))))))) sNil)
    (sRet (eBin modF (eBin addF (eBin addF (eVar 3) (eC (.int 1))) (eBin mulF (eCall m__law_next (aCons (eVar 0) (aCons (eC (.int 2)) aNil))) (eBin subF (eVar 2) (eC (.int 2))))) (eVar 2))))))))
theorem goal_ex {st : D} {ab : List Nat} {S : Mem → Prop} (g : Gen st ab S m__law_next) {M : Mem} (h : S M) {fam n room let_ : Nat} (hn : 0 < n) (hn2 : n ≤ 100000) (hr : room < n) :
    ∃ (r : Nat) (M' : Mem), m__law_goal [st, .int (fam : Int), .int (n : Int), .int (room : Int), .int (let_ : Int)] M = some (.v (.int (r : Int)), M') ∧ r < n ∧ S M' ∧ Fr ab M M' := by
  have self : ∀ d : Int, shut M (.v (.int d)) M = (.v (.int d), M) := fun d => g.shutS (Fr.refl _ _) h (by simp)
  by_cases h0 : fam = 0
  · subst h0
    obtain ⟨r, M1, e, q, s1, f1⟩ := g.next M n h hn hn2
    refine ⟨r, M1, ?_, q, s1, f1⟩
    unfold m__law_goal fnD
    simp [e]
    exact g.shutS f1 s1 (by simp)
  by_cases h1 : fam = 1
  · subst h1
    obtain ⟨r, M1, e, q, s1, f1⟩ := g.next M 3 h (by omega) (by omega)
    have e' : m__law_next [st, .int 3] M = some (.v (.int (r : Int)), M1) := e
    refine ⟨(room + r) % n, M1, ?_, Nat.mod_lt _ hn, s1, f1⟩
    unfold m__law_goal fnD
    simp [e', hn]
    exact g.shutS f1 s1 (by simp)
  by_cases h2 : fam = 2
  · subst h2
    by_cases h3 : room < n / 2
    · obtain ⟨r, M1, e, q, s1, f1⟩ := g.next M (n / 2) h (by omega) (by omega)
      have e' : m__law_next [st, .int ((n : Int) / 2)] M = some (.v (.int (r : Int)), M1) := e
      refine ⟨r, M1, ?_, by omega, s1, f1⟩
      have h3' : (room : Int) < (n : Int) / 2 := by omega
      unfold m__law_goal fnD
      simp [e', h3']
      exact g.shutS f1 s1 (by simp)
    · obtain ⟨r, M1, e, q, s1, f1⟩ := g.next M (n - n / 2) h (by omega) (by omega)
      have ec : ((n - n / 2 : Nat) : Int) = (n : Int) - (n : Int) / 2 := by omega
      rw [ec] at e
      refine ⟨n / 2 + r, M1, ?_, by omega, s1, f1⟩
      have h3' : ¬ (room : Int) < (n : Int) / 2 := by omega
      unfold m__law_goal fnD
      simp [e, h3']
      exact g.shutS f1 s1 (by simp)
  have c0 : ¬ (fam : Int) = 0 := by omega
  have c1 : ¬ (fam : Int) = 1 := by omega
  have c2 : ¬ (fam : Int) = 2 := by omega
  by_cases h4 : let_ = 0
  · subst h4
    refine ⟨(room + 1) % n, M, ?_, Nat.mod_lt _ hn, h, Fr.refl _ _⟩
    unfold m__law_goal fnD
    simp [c0, c1, c2, h0, h1, h2, hn]
    exact self _
  have c4 : ¬ (let_ : Int) = 0 := by omega
  by_cases h5 : fam = 3
  · subst h5
    by_cases h6 : room = n - 1
    · refine ⟨0, M, ?_, hn, h, Fr.refl _ _⟩
      have h6' : (room : Int) = (n : Int) - 1 := by omega
      unfold m__law_goal fnD
      simp [h4, h6', ixF, seqOf, atI, ixN]
      exact self _
    · refine ⟨room, M, ?_, hr, h, Fr.refl _ _⟩
      have h6' : ¬ (room : Int) = (n : Int) - 1 := by omega
      unfold m__law_goal fnD
      simp [h4, h6', ixF, seqOf, atI, ixN]
      exact self _
  obtain ⟨r, M1, e, q, s1, f1⟩ := g.next M 2 h (by omega) (by omega)
  have e' : m__law_next [st, .int 2] M = some (.v (.int (r : Int)), M1) := e
  have hm : mulOk (r : Int) ((n : Int) - 2) := .inl (by omega)
  have hp : 0 ≤ ((room : Int) + 1 + (r : Int) * ((n : Int) - 2)) % (n : Int) := Int.emod_nonneg _ (by omega)
  have hq : ((room : Int) + 1 + (r : Int) * ((n : Int) - 2)) % (n : Int) < (n : Int) := Int.emod_lt_of_pos _ (by omega)
  refine ⟨(((room : Int) + 1 + (r : Int) * ((n : Int) - 2)) % (n : Int)).toNat, M1, ?_, by omega, s1, f1⟩
  rw [Int.toNat_of_nonneg hp]
  unfold m__law_goal fnD
  have c5 : ¬ (fam : Int) = 3 := by omega
  simp [h0, h1, h2, h4, h5, c0, c1, c2, c4, c5, e', hm, hn]
  exact g.shutS (d := .int _) f1 s1 (by simp)
theorem begin_seed {W : Option D} : ∀ (ns : List Int) (s : Int) (x : Option D) (M : Mem), 0 ≤ s → s < 2305843009213693951 →
    ∃ s' y, 0 ≤ s' ∧ s' < 2305843009213693951 ∧ forL (gT (.nm 2)) _law_begin_F1 [] (ns.map .int) [W, some (.int s), x] M = some (.nx [W, some (.int s'), y] M)
  | [], s, x, M, h0, h1 => ⟨s, x, h0, h1, by simp [forL_nil]⟩
  | n :: ns, s, x, M, h0, h1 => by
    have hs2 : (s * 6364136223846793 + n % 1000000000000000000000000000000 + 1442695040888963) % 2305843009213693951 < 2305843009213693951 := Int.emod_lt_of_pos _ (by omega)
    have hs3 : 0 ≤ (s * 6364136223846793 + n % 1000000000000000000000000000000 + 1442695040888963) % 2305843009213693951 := Int.emod_nonneg _ (by omega)
    obtain ⟨s', y, q0, q1, e⟩ := begin_seed (W := W) ns _ (some (.int n)) M hs3 hs2
    refine ⟨s', y, q0, q1, ?_⟩
    have hm : mulOk s 6364136223846793 := .inr (by omega)
    rw [List.map_cons, forL_cons, ← e]
    simp [_law_begin_F1, hm]
theorem begin_cells {W X : Option D} : ∀ (ns : List Int) (M : Mem), ∃ cs : List Int, (∀ c ∈ cs, 0 ≤ c) ∧ cs.length ≤ ns.length ∧ cmpL (.nm 2) _law_begin_C1 _law_begin_E1 [] [W, X, none] (ns.map .int) M = some (cs.map .int, M)
  | [], M => ⟨[], by simp, by simp, by simp [cmpL_nil]⟩
  | n :: ns, M => by
    obtain ⟨cs, h0, h1, e⟩ := begin_cells (W := W) (X := X) ns M
    by_cases hn : 1000000000000000000 ≤ (if n < 0 then -n else n)
    · refine ⟨(if n < 0 then -n else n) :: cs, fun c hc => ?_, by simp; omega, ?_⟩
      · rcases List.mem_cons.mp hc with rfl | hc
        · split <;> omega
        · exact h0 c hc
      · rw [List.map_cons, cmpL_cons]
        simp [_law_begin_C1, _law_begin_E1, hn, e]
    · refine ⟨cs, h0, by simp; omega, ?_⟩
      rw [List.map_cons, cmpL_cons]
      simp [_law_begin_C1, _law_begin_E1, hn, e]
theorem begin_eq (ns : List Int) (hl : ns.length ≤ 63) : ∃ M, m__law_begin [.fl (ns.map .int)] [] = some (.o (.lst [.ref 0, .int (M : Int × Mem).1]), M.2) ∧ S1 1 0 (M.2 ++ [.lst [.ref 0, .int M.1]]) ∧ M.2.length = 1 := by
  obtain ⟨s', y, q0, q1, e⟩ := begin_seed (W := some (.fl (ns.map .int))) (ns.take 63) ((ns.length : Int) + 3) none [] (by omega) (by omega)
  obtain ⟨cs, h0, h1, e2⟩ := begin_cells (W := some (.fl (ns.map .int))) (X := some (.int s')) (ns.take 63) []
  rw [List.take_of_length_le hl] at e e2 h1
  refine ⟨(s', [.lst (cs.map .int)]), ?_, ⟨cs, s', by simp, by simp, h0, by omega, q0, q1, by simp⟩, rfl⟩
  have hl2 : (ns.map D.int).take 63 = ns.map D.int := List.take_of_length_le (by simpa using hl)
  unfold m__law_begin fnD
  simp [sFor, len_fl, sl_fl, cut_to, src_ol, hl2, e, eComp, wipeE, e2]
  unfold shut
  rw [if_pos (show okM [] _ from fun i b hi => by simp at hi)]
  simp [Ob.lo]
noncomputable def _law_machine_E1 (ρ : Env) (m : Mem) : Option (Out × Mem) := (eCall m__law_goal (aCons (eVar 0) (aCons (eVar 5) (aCons (eVar 3) (aCons (eVar 7) (aCons (eVar 8) aNil)))))) ρ m
theorem w__law_machine_E1 {ρ : Env} {M : Mem} {Q : PO2} : WE _law_machine_E1 ρ M Q ↔ WE (eCall m__law_goal (aCons (eVar 0) (aCons (eVar 5) (aCons (eVar 3) (aCons (eVar 7) (aCons (eVar 8) aNil)))))) ρ M Q := Iff.rfl
noncomputable def _law_machine_F1 (ρ : Env) (m : Mem) : Option R := (sDo (eMt1 "list" appF (eVar 6) (eUn tupF (eComp (iRg1 (eVar 4)) [8] (.nm 8) bYes _law_machine_E1)))) ρ m
theorem w__law_machine_F1 {ρ : Env} {M : Mem} {Q : R → Prop} : WS _law_machine_F1 ρ M Q ↔ WS (sDo (eMt1 "list" appF (eVar 6) (eUn tupF (eComp (iRg1 (eVar 4)) [8] (.nm 8) bYes _law_machine_E1)))) ρ M Q := Iff.rfl
noncomputable def m__law_machine : Fn := fnD 3 9
    (sSeq (sSet 3 (eBin addF (eC (.int 1)) (eCall m__law_next (aCons (eVar 0) (aCons (eVar 1) aNil)))))
    (sSeq (sSet 4 (eBin addF (eC (.int 1)) (eCall m__law_next (aCons (eVar 0) (aCons (eVar 2) aNil)))))
    (sSeq (sSet 5 (eCall m__law_next (aCons (eVar 0) (aCons (eC (.int 5)) aNil))))
    (sSeq (sSet 6 (eLst aNil))
    (sSeq (sFor (iRg1 (eVar 3)) (gT (.nm 7)) _law_machine_F1)
    (sRet (eUn tupF (eVar 6))))))))
theorem mach_row {st : D} {ab : List Nat} {S : Mem → Prop} (g : Gen st ab S m__law_next) {n fam room : Nat} {A B C D' : Option D} (hn : 0 < n) (hn2 : n ≤ 100000) (hr : room < n) (ls : List Nat) {M : Mem} (h : S M) :
    ∃ (row : List Nat) (M' : Mem), cmpL (.nm 8) bYes _law_machine_E1 [] [some st, A, B, some (.int (n : Int)), C, some (.int (fam : Int)), D', some (.int (room : Int)), none] (nats ls) M = some (nats row, M') ∧ row.length = ls.length ∧ (∀ r ∈ row, r < n) ∧ S M' ∧ Fr ab M M' := by
  induction ls generalizing M with
  | nil => exact ⟨[], M, by simp [cmpL_nil], rfl, by simp, h, Fr.refl _ _⟩
  | cons l ls ih =>
    obtain ⟨r, M1, e, q, s1, f1⟩ := goal_ex g h (fam := fam) (let_ := l) hn hn2 hr
    obtain ⟨row, M2, e2, hl, hq, s2, f2⟩ := ih s1
    refine ⟨r :: row, M2, ?_, by simp [hl], fun x hx => ?_, s2, f1.trans f2⟩
    · rw [show nats (l :: ls) = .int (l : Int) :: nats ls from rfl, cmpL_cons]
      simp [_law_machine_E1, e, e2]
    · rcases List.mem_cons.mp hx with rfl | hx
      · exact q
      · exact hq x hx
theorem mach_ex {st : D} {ab : List Nat} {S : Mem → Prop} (g : Gen st ab S m__law_next) {M : Mem} (h : S M) {mr ml : Nat} (h1 : 0 < mr) (h2 : mr ≤ 1000) (h3 : 0 < ml) (h4 : ml ≤ 1000) :
    ∃ (m : List (List Nat)) (l : Nat) (M' : Mem), m__law_machine [st, .int (mr : Int), .int (ml : Int)] M = some (.v (tM m), M') ∧ Mach m l ∧ 0 < m.length ∧ m.length ≤ mr ∧ 0 < l ∧ l ≤ ml ∧ S M' ∧ Fr ab M M' := by
  obtain ⟨n0, M1, e1, q1, s1, f1⟩ := g.next M mr h h1 (by omega)
  obtain ⟨l0, M2, e2, q2, s2, f2⟩ := g.next M1 ml s1 h3 (by omega)
  obtain ⟨fam, M3, e3, q3, s3, f3⟩ := g.next M2 5 s2 (by omega) (by omega)
  have e3' : m__law_next [st, .int 5] M2 = some (.v (.int (fam : Int)), M3) := e3
  have f13 := (f1.trans f2).trans f3
  obtain ⟨N, hN⟩ : ∃ N, N = 1 + n0 := ⟨_, rfl⟩
  obtain ⟨L, hL⟩ : ∃ L, L = 1 + l0 := ⟨_, rfl⟩
  have a1 : (1 : Int) + (n0 : Int) = (N : Int) := by omega
  have a2 : (1 : Int) + (l0 : Int) = (L : Int) := by omega
  have zN : N ≤ 1000 := by omega
  have zL : L ≤ 1000 := by omega
  -- the rows
  obtain ⟨ρ', M', ef, y, m, M4, hρ, hM, hml, hmr, s4, f4⟩ := forR_inv (g := gT (.nm 7)) (body := _law_machine_F1) (n := N) (ρ := [some st, some (.int (mr : Int)), some (.int (ml : Int)), some (.int (N : Int)), some (.int (L : Int)), some (.int (fam : Int)), some (.ref M3.length), none, none]) (M := M3 ++ [.lst []])
    (fun i ρ Mx => ∃ (y : Option D) (m : List (List Nat)) (M4 : Mem), ρ = [some st, some (.int (mr : Int)), some (.int (ml : Int)), some (.int (N : Int)), some (.int (L : Int)), some (.int (fam : Int)), some (.ref M3.length), y, none] ∧ Mx = M4 ++ [.lst (m.map tN)] ∧
      m.length = i ∧ (∀ row ∈ m, row.length = L ∧ ∀ r ∈ row, r < N) ∧ S M4 ∧ Fr ab M3 M4)
    ⟨none, [], M3, rfl, by simp, rfl, by simp, s3, Fr.refl _ _⟩
    (fun i ρ Mx hi ⟨y, m, M4, hρ, hM, hml, hmr, s4, f4⟩ => by
      subst hρ hM
      obtain ⟨row, M5, e5, hl, hq, s5, f5⟩ := mach_row g (fam := fam) (A := some (.int (mr : Int))) (B := some (.int (ml : Int))) (C := some (.int (L : Int))) (D' := some (.ref M3.length)) (by omega) (by omega) hi (List.range (L)) (g.app s4 [.lst (m.map tN)])
      obtain ⟨M6, rfl, s6, f6⟩ := g.tail s4 s5 f5
      have hk : M3.length = M6.length := by rw [f6.1, f4.1]
      have hk4 : M3.length = M4.length := f4.1.symm
      refine ⟨_, _, _, _, by simp; exact ⟨rfl, rfl⟩, ?_, some (.int (i : Int)), m ++ [row], M6, rfl, rfl, by simp [hml], fun r hr => ?_, s6, f4.trans f6⟩
      · have ez : rgOk (L : Int) := rg_nat (by omega)
        have hz : fits (m.length + 1) := fits_of (by omega)
        have e5' : cmpL (.nm 8) bYes _law_machine_E1 [] [some st, some (.int (mr : Int)), some (.int (ml : Int)), some (.int (N : Int)), some (.int (L : Int)), some (.int (fam : Int)), some (.ref M3.length), some (.int (i : Int)), none] (upto 0 (L)) (M4 ++ [.lst (m.map tN)]) = some (nats row, M6 ++ [.lst (m.map tN)]) := by rw [upto_nats]; exact e5
        simp [_law_machine_F1, eComp, wipeE, isTyB, get_end hk4, ez, e5', tup_ol, appF, get_end hk, hz, set_end hk, tN]
      · rcases List.mem_append.mp hr with hr | hr
        · exact hmr r hr
        · simp at hr; subst hr; exact ⟨by simpa using hl, hq⟩)
  have hk4 : M3.length = M4.length := f4.1.symm
  refine ⟨m, L, M4, ?_, ⟨fun row hr => (hmr row hr).1, fun row hr r h => by rw [hml]; exact (hmr row hr).2 r h⟩, by omega, by omega, by omega, by omega, s4, f13.trans f4⟩
  subst hρ hM
  have ez : rgOk (N : Int) := rg_nat (by omega)
  unfold m__law_machine fnD
  simp only [List.length_cons, List.length_nil, if_true, List.map_cons, List.map_nil, List.replicate, List.cons_append, List.nil_append]
  simp [e1, e2, e3', a1, a2, sFor, ez, ef, tup_ref (get_end hk4)]
  have := g.shut (e := [.lst (m.map tN)]) (d := tM m) (f13.trans f4) s4 (by simp)
  exact this
/-! ### things of any kind whose kind is known -/
mutual
def kn (M : Mem) : D → Prop
  | .par _ => False
  | .lam _ _ => False
  | .ref n => (∃ xs, M[n]? = some (.lst xs)) ∨ ∃ xs, M[n]? = some (.dct xs)
  | .tup xs => knL M xs
  | _ => True
def knL (M : Mem) : List D → Prop
  | [] => True
  | d :: ds => kn M d ∧ knL M ds
end
theorem knL_iff (M : Mem) : ∀ ds : List D, knL M ds ↔ ∀ d ∈ ds, kn M d
  | [] => by simp [knL]
  | d :: ds => by simp [knL, knL_iff M ds]
theorem kn_tup {M : Mem} {xs : List D} (h : kn M (.tup xs)) : ∀ d ∈ xs, kn M d := by rw [kn] at h; exact (knL_iff M xs).mp h
theorem tup_kn {M : Mem} {xs : List D} (h : ∀ d ∈ xs, kn M d) : kn M (.tup xs) := by rw [kn]; exact (knL_iff M xs).mpr h
@[simp] theorem kn_int (M : Mem) (i : Int) : kn M (.int i) = True := by rw [kn] <;> simp
@[simp] theorem kn_bl (M : Mem) (i : Bool) : kn M (.bl i) = True := by rw [kn] <;> simp
@[simp] theorem kn_str (M : Mem) (i : Str) : kn M (.str i) = True := by rw [kn] <;> simp
@[simp] theorem kn_non (M : Mem) : kn M .non = True := by rw [kn] <;> simp
@[simp] theorem kn_tupE (M : Mem) (xs : List D) : kn M (.tup xs) = knL M xs := by rw [kn]
@[simp] theorem knL_nil (M : Mem) : knL M [] = True := by rw [knL]
@[simp] theorem knL_cons (M : Mem) (d : D) (ds : List D) : knL M (d :: ds) = (kn M d ∧ knL M ds) := by rw [knL]
theorem kn_lst {M : Mem} {n : Nat} {xs : List D} (h : M[n]? = some (.lst xs)) : kn M (.ref n) := by rw [kn]; exact .inl ⟨xs, h⟩
theorem kn_dct {M : Mem} {n : Nat} {xs : List (D × D)} (h : M[n]? = some (.dct xs)) : kn M (.ref n) := by rw [kn]; exact .inr ⟨xs, h⟩
theorem kn_nats (M : Mem) (w : List Nat) : knL M (nats w) := by rw [knL_iff]; intro d hd; simp at hd; obtain ⟨a, _, rfl⟩ := hd; simp
@[simp] theorem kn_tN (M : Mem) (w : List Nat) : kn M (tN w) = True := by unfold tN; simp [kn_nats]
@[simp] theorem kn_tM (M : Mem) (w : List (List Nat)) : kn M (tM w) = True := by unfold tM; simp [knL_iff]
/-- is it a tuple, a whole number, .. -/
def isTupB : D → Bool
  | .tup _ => true
  | _ => false
def wholeB : D → Bool
  | .int _ => true
  | _ => false
def isStrB : D → Bool
  | .str _ => true
  | _ => false
def isBlB : D → Bool
  | .bl _ => true
  | _ => false
def isIntB : D → Bool
  | .int _ => true
  | .bl _ => true
  | _ => false
theorem isi_any {M : Mem} {d : D} (h : kn M d) (t : Ty) : ∃ s, isiF t (.v d) M = some (.v (.bl (isiB t s)), M) ∧ tyOf (.v d) M = some s := by
  cases d with
  | par xs => simp [kn] at h
  | lam k xs => simp [kn] at h
  | ref n =>
    rw [kn] at h
    rcases h with ⟨xs, e⟩ | ⟨xs, e⟩
    · exact ⟨"list", by simp [isiF, tyOf, e], by simp [tyOf, e]⟩
    · exact ⟨"dict", by simp [isiF, tyOf, e], by simp [tyOf, e]⟩
  | _ => exact ⟨_, rfl, rfl⟩
theorem isi_tup {M : Mem} {d : D} (h : kn M d) : isiF .tuple (.v d) M = some (.v (.bl (isTupB d)), M) := by
  cases d with
  | par xs => simp [kn] at h
  | lam k xs => simp [kn] at h
  | ref n =>
    rw [kn] at h
    rcases h with ⟨xs, e⟩ | ⟨xs, e⟩ <;> simp [isiF, tyOf, e, isiB, isTupB]
  | _ => simp [isiF, tyOf, isiB, isTupB]
theorem isi_intB {M : Mem} {d : D} (h : kn M d) : isiF .int (.v d) M = some (.v (.bl (isIntB d)), M) := by
  cases d with
  | par xs => simp [kn] at h
  | lam k xs => simp [kn] at h
  | ref n =>
    rw [kn] at h
    rcases h with ⟨xs, e⟩ | ⟨xs, e⟩ <;> simp [isiF, tyOf, e, isiB, isIntB]
  | _ => simp [isiF, tyOf, isiB, isIntB]
theorem isi_blB {M : Mem} {d : D} (h : kn M d) : isiF .bool (.v d) M = some (.v (.bl (isBlB d)), M) := by
  cases d with
  | par xs => simp [kn] at h
  | lam k xs => simp [kn] at h
  | ref n =>
    rw [kn] at h
    rcases h with ⟨xs, e⟩ | ⟨xs, e⟩ <;> simp [isiF, tyOf, e, isiB, isBlB]
  | _ => simp [isiF, tyOf, isiB, isBlB]
theorem isi_strB {M : Mem} {d : D} (h : kn M d) : isiF .str (.v d) M = some (.v (.bl (isStrB d)), M) := by
  cases d with
  | par xs => simp [kn] at h
  | lam k xs => simp [kn] at h
  | ref n =>
    rw [kn] at h
    rcases h with ⟨xs, e⟩ | ⟨xs, e⟩ <;> simp [isiF, tyOf, e, isiB, isStrB]
  | _ => simp [isiF, tyOf, isiB, isStrB]
theorem isi_tN (M : Mem) (w : List Nat) : isiF .tuple (.v (tN w)) M = some (.v (.bl true), M) := by simp [isiF, tN, tyOf, isiB]
theorem isi_tM (M : Mem) (w : List (List Nat)) : isiF .tuple (.v (tM w)) M = some (.v (.bl true), M) := by simp [isiF, tM, tyOf, isiB]
theorem all_bls (bs : List Bool) (M : Mem) : allF (.o (.lst (bs.map .bl))) M = some (.v (.bl (bs.all id)), M) := by simp [allF, lstOf, blsOf_map]
theorem any_bls (bs : List Bool) (M : Mem) : anyF (.o (.lst (bs.map .bl))) M = some (.v (.bl (bs.any id)), M) := by simp [anyF, lstOf, blsOf_map]
theorem all_map {α : Type} (p : α → Bool) (xs : List α) (M : Mem) : allF (.o (.lst (xs.map fun x => D.bl (p x)))) M = some (.v (.bl (xs.all p)), M) := by
  have := all_bls (xs.map p) M
  rw [List.map_map, List.all_map] at this
  exact this
theorem any_map {α : Type} (p : α → Bool) (xs : List α) (M : Mem) : anyF (.o (.lst (xs.map fun x => D.bl (p x)))) M = some (.v (.bl (xs.any p)), M) := by
  have := any_bls (xs.map p) M
  rw [List.map_map, List.any_map] at this
  exact this
/-- comprehensions over plain data, elements that change nothing -/
theorem wc_mapD (h : D → D) (ys : List D) {t : Tg} {f : E} {ρ : Env} {M : Mem} {Q : List D → Mem → Prop} (step : ∀ y ∈ ys, WEnv (t.put y ρ) fun ρ' => WE f ρ' M (kIs (h y) M)) (done : Q (ys.map h) M) : WC t bYes f [] ρ ys M Q := by
  have := wc_map (emb := id) (h := h) ys (t := t) (f := f) (ρ := ρ) (M := M) (Q := Q) step done
  rw [List.map_id] at this
  exact this
theorem wc_invL {t : Tg} {f : E} {lv : List (Nat × Ob)} {ρ : Env} {M : Mem} {Q : List D → Mem → Prop} (h : D → D) (ys : List D) (hc : chk lv M) (step : ∀ y ∈ ys, WEnv (t.put y ρ) fun ρ' => WE f ρ' M (kIs (h y) M)) (done : Q (ys.map h) M) : WC t bYes f lv ρ ys M Q := by
  refine wc_inv (fun i acc M' => acc = (ys.map h).take i ∧ M' = M) ⟨by simp, rfl⟩ (fun _ _ _ _ j => by rw [j.2]; exact hc) (fun i x acc M' hx j => ?_) (fun acc M' j => ?_)
  · obtain ⟨rfl, rfl⟩ := j
    obtain ⟨hi, rfl⟩ := List.getElem?_eq_some_iff.mp hx
    obtain ⟨ρ', e2, r, M', e3, rfl, rfl⟩ := step ys[i] (List.getElem_mem hi)
    refine ⟨ρ', e2, true, M', rfl, _, _, e3, ?_, rfl⟩
    rw [List.take_add_one]
    simp [hi]
  · obtain ⟨rfl, rfl⟩ := j
    rw [List.take_of_length_le (by simp)]
    exact done
mutual
theorem kn_take {M : Mem} {n : Nat} : ∀ {d : D}, d.lo n → kn M d → kn (M.take n) d
  | .non, _, _ => by simp
  | .bl _, _, _ => by simp
  | .int _, _, _ => by simp
  | .str _, _, _ => by simp
  | .fl _, _, _ => by rw [kn] <;> simp
  | .par _, _, h => by rw [kn] at h; exact h.elim
  | .lam _ _, _, h => by rw [kn] at h; exact h.elim
  | .tup xs, l, h => by simp at l h ⊢; exact knL_take l h
  | .ref k, l, h => by
    have l' : k < n := by simpa using l
    rw [kn] at h ⊢
    rcases h with ⟨xs, e⟩ | ⟨xs, e⟩
    · exact .inl ⟨xs, by rw [List.getElem?_take_of_lt l']; exact e⟩
    · exact .inr ⟨xs, by rw [List.getElem?_take_of_lt l']; exact e⟩
theorem knL_take {M : Mem} {n : Nat} : ∀ {d : List D}, loL n d → knL M d → knL (M.take n) d
  | [], _, _ => by simp
  | d :: ds, l, h => by simp at l h ⊢; exact ⟨kn_take l.1 h.1, knL_take l.2 h.2⟩
end
theorem kn_app {M e : Mem} {d : D} : kn M d → kn (M ++ e) d := by
  refine D.rec (motive_1 := fun d => kn M d → kn (M ++ e) d) (motive_2 := fun ds => knL M ds → knL (M ++ e) ds) (by simp) (by simp) (by simp) (by simp) (fun xs ih => by simpa using ih) (fun xs ih _ => by rw [kn] <;> simp) (fun xs ih h => by rw [kn] at h; exact h.elim) (fun k h => ?_) (fun k xs ih h => by rw [kn] at h; exact h.elim) (by simp) (fun d ds h1 h2 => by simp; exact fun a b => ⟨h1 a, h2 b⟩) d
  rw [kn] at h ⊢
  rcases h with ⟨xs, e1⟩ | ⟨xs, e1⟩
  · exact .inl ⟨xs, by rw [List.getElem?_append_left (List.getElem?_eq_some_iff.mp e1).1]; exact e1⟩
  · exact .inr ⟨xs, by rw [List.getElem?_append_left (List.getElem?_eq_some_iff.mp e1).1]; exact e1⟩
/-- a def's end that hands a tuple of things back -/
theorem Gen.kFnT {st : D} {ab : List Nat} {S : Mem → Prop} {nx : Fn} (g : Gen st ab S nx) {M M' : Mem} {xs : List D} {K : PO2} (s0 : S M) (s : S M') (hl : M.length ≤ M'.length) (hk : kn M' (.tup xs)) (k : ∀ M'', S M'' → kn M'' (.tup xs) → K (.v (.tup xs)) M'') : Q.kFn M K (.rt (.v (.tup xs)) M') := by
  rw [kFn_rt]
  unfold Q.shut
  split
  · simp only
    split
    · rename_i h
      exact k _ (g.keep M' _ s fun i hi => List.getElem?_take_of_lt (g.ins M s0 i hi)) (kn_take h hk)
    · exact k _ s hk
  · exact k _ s hk
/-- one of several things, by its place -/
theorem pick_o {xs : List D} {i : Nat} {M : Mem} {K : PO2} (hi : i < xs.length) (h : ∀ d ∈ xs, K (.v d) M) : WO (ixF (.o (.lst xs)) (.v (.int (i : Int))) M) K := by
  rw [ix_ol (List.getElem?_eq_getElem hi), wo_some]
  exact h _ (List.getElem_mem hi)
theorem pick_r {n : Nat} {xs : List D} {i : Nat} {M : Mem} {K : PO2} (hn : M[n]? = some (.lst xs)) (hi : i < xs.length) (h : ∀ d ∈ xs, K (.v d) M) : WO (ixF (.v (.ref n)) (.v (.int (i : Int))) M) K := by
  have : ixF (.v (.ref n)) (.v (.int (i : Int))) M = some (.v xs[i], M) := by simp [ixF, seqOf, hn, atI_get xs i hi]
  rw [this, wo_some]
  exact h _ (List.getElem_mem hi)
theorem pick_t {xs : List D} {i : Nat} {M : Mem} {K : PO2} (hi : i < xs.length) (h : ∀ d ∈ xs, K (.v d) M) : WO (ixF (.v (.tup xs)) (.v (.int (i : Int))) M) K := by
  have : ixF (.v (.tup xs)) (.v (.int (i : Int))) M = some (.v xs[i], M) := by simp [ixF, seqOf, atI_get xs i hi]
  rw [this, wo_some]
  exact h _ (List.getElem_mem hi)
theorem add_rl {n : Nat} {xs ys : List D} {M : Mem} (h : M[n]? = some (.lst xs)) (hz : xs.length + ys.length ≤ 100000) : addF (.v (.ref n)) (.o (.lst ys)) M = some (.o (.lst (xs ++ ys)), M) := by
  simp only [addF, lstOf, h, Option.bind_some, if_pos (fits_of hz)]
theorem add_ll {xs ys : List D} {M : Mem} (hz : xs.length + ys.length ≤ 100000) : addF (.o (.lst xs)) (.o (.lst ys)) M = some (.o (.lst (xs ++ ys)), M) := by
  simp only [addF, lstOf, Option.bind_some, if_pos (fits_of hz)]
theorem add_rr {n k : Nat} {xs ys : List D} {M : Mem} (h : M[n]? = some (.lst xs)) (h2 : M[k]? = some (.lst ys)) (hz : xs.length + ys.length ≤ 100000) : addF (.v (.ref n)) (.v (.ref k)) M = some (.o (.lst (xs ++ ys)), M) := by
  simp only [addF, lstOf, h, h2, Option.bind_some, if_pos (fits_of hz)]
theorem add_lr {k : Nat} {xs ys : List D} {M : Mem} (h2 : M[k]? = some (.lst ys)) (hz : xs.length + ys.length ≤ 100000) : addF (.o (.lst xs)) (.v (.ref k)) M = some (.o (.lst (xs ++ ys)), M) := by
  simp only [addF, lstOf, h2, Option.bind_some, if_pos (fits_of hz)]
theorem all_trues {α : Type} (ys : List α) (M : Mem) : allF (.o (.lst (ys.map fun _ => D.bl true))) M = some (.v (.bl true), M) := by
  rw [all_map (fun _ => true)]; simp
/-! ### lists of numbers -/
theorem enum_nats : ∀ (w : List Nat) (i : Nat), enumD i (nats w) = (w.zipIdx i).map fun p => D.par [.int ((p.2 : Nat) : Int), .int ((p.1 : Nat) : Int)]
  | [], _ => by simp [nats, enumD]
  | a :: w, i => by
    have := enum_nats w (i + 1)
    simp only [nats] at this
    simp [nats, enumD, this]
theorem enum_ref {n : Nat} {w : List Nat} {M : Mem} (h : M[n]? = some (.lst (nats w))) : enumOf (.v (.ref n)) M = some ⟨(w.zipIdx).map fun p => D.par [.int ((p.2 : Nat) : Int), .int ((p.1 : Nat) : Int)], [(n, .lst (nats w))]⟩ := by
  simp only [enumOf, lsrc, h, Option.bind_some]
  rw [enum_nats]
theorem ix_first {n : Nat} {w : List Nat} {M : Mem} (h : M[n]? = some (.lst (nats w))) (hw : 0 < w.length) : ixF (.v (.ref n)) (.v (.int 0)) M = some (.v (.int ((w[0] : Nat) : Int)), M) := by
  simp only [ixF, seqOf, h, Option.bind_some]
  rw [show (0 : Int) = ((0 : Nat) : Int) from rfl, atI_nats w 0 hw]; rfl
theorem ix_last {n : Nat} {w : List Nat} {M : Mem} (h : M[n]? = some (.lst (nats w))) (hw : 0 < w.length) : ixF (.v (.ref n)) (.v (.int (-1))) M = some (.v (.int ((w[w.length - 1] : Nat) : Int)), M) := by
  have e : ixN (nats w).length (-1) = some (w.length - 1) := by unfold ixN; simp; omega
  simp only [ixF, seqOf, h, Option.bind_some, atI, e]
  simp [nats, List.getElem?_map, List.getElem?_eq_getElem (show w.length - 1 < w.length by omega)]
theorem neg_one (M : Mem) : negF (.v (.int 1)) M = some (.v (.int (-1)), M) := rfl
theorem ixn_at {n : Nat} {w : List Nat} {M : Mem} (h : M[n]? = some (.lst (nats w))) {i : Nat} (hi : i < w.length) : ixF (.v (.ref n)) (.v (.int (i : Int))) M = some (.v (.int ((w[i] : Nat) : Int)), M) := by
  simp only [ixF, seqOf, h, Option.bind_some]
  rw [atI_nats w i hi]; rfl
theorem sto_at {M e : Mem} {n : Nat} (hn : n = M.length) {w : List Nat} {i x : Nat} (hi : i < w.length) : stoF (.v (.ref n)) (.v (.int (i : Int))) (.int (x : Int)) (M ++ .lst (nats w) :: e) = some (M ++ .lst (nats (w.set i x)) :: e) := by
  subst hn
  have hg : (M ++ .lst (nats w) :: e)[M.length]? = some (.lst (nats w)) := by rw [gm0]; rfl
  simp only [stoF, hg]
  have : ixN (nats w).length (i : Int) = some i := by unfold ixN; simp; omega
  rw [this, Option.map_some, sm0]
  simp [nats, List.map_set]
theorem erase_map {α β : Type} (f : α → β) : ∀ (l : List α) (i : Nat), (l.map f).eraseIdx i = (l.eraseIdx i).map f
  | [], _ => rfl
  | _ :: _, 0 => rfl
  | a :: l, i + 1 => by simp [List.eraseIdx, erase_map f l i]
theorem pop_at {M : Mem} {q : Nat} {lf : List Nat} (h : M[q]? = some (.lst (nats lf))) {j : Nat} (hj : j < lf.length) (hb : lf.length ≤ 1000) : popF (.v (.ref q)) (.v (.int (j : Int))) M = some (.v (.int ((lf[j] : Nat) : Int)), M.set q (.lst (nats (lf.eraseIdx j)))) := by
  have h63 : i63 (j : Int) := i63_of (by omega) (by omega)
  have es : seqIndex? (j : Int) (nats lf).length = some j := by unfold seqIndex?; simp; omega
  simp only [popF, h, if_pos h63, es, Option.bind_some]
  have : (nats lf)[j]? = some (.int ((lf[j] : Nat) : Int)) := by simp [nats, hj]
  rw [this]
  simp [nats, erase_map]
theorem wc_mapL3 {α : Type} (emb h : α → D) (ys : List α) {t : Tg} {f : E} {lv : List (Nat × Ob)} {ρ : Env} {M : Mem} {Q : List D → Mem → Prop} (hc : chk lv M) (step : ∀ y ∈ ys, WEnv (t.put (emb y) ρ) fun ρ' => WE f ρ' M (kIs (h y) M)) (done : Q (ys.map h) M) : WC t bYes f lv ρ (ys.map emb) M Q := by
  refine wc_inv (fun i acc M' => acc = (ys.map h).take i ∧ M' = M) ⟨by simp, rfl⟩ (fun _ _ _ _ j => by rw [j.2]; exact hc) (fun i x acc M' hx j => ?_) (fun acc M' j => ?_)
  · obtain ⟨rfl, rfl⟩ := j
    rw [List.getElem?_map] at hx
    obtain ⟨y, e1, rfl⟩ := Option.map_eq_some_iff.mp hx
    obtain ⟨hi, rfl⟩ := List.getElem?_eq_some_iff.mp e1
    obtain ⟨ρ', e2, r, M', e3, rfl, rfl⟩ := step ys[i] (List.getElem_mem hi)
    refine ⟨ρ', e2, true, M', rfl, _, _, e3, ?_, rfl⟩
    rw [List.take_add_one]
    simp [hi]
  · obtain ⟨rfl, rfl⟩ := j
    rw [List.length_map, List.take_of_length_le (by simp)]
    exact done
theorem rep_flat {α : Type} (x : α) : ∀ n : Nat, (List.replicate n [x]).flatten = List.replicate n x
  | 0 => rfl
  | n + 1 => by simp [List.replicate_succ, rep_flat x n]
theorem eqb_int (i j : Int) : (D.int i).eqb (.int j) = decide (i = j) := by simp [D.eqb]
theorem any_nats (w : List Nat) (x : Nat) : ((nats w).any fun d => d.eqb (.int (x : Int))) = decide (x ∈ w) := by
  induction w with
  | nil => simp [nats]
  | cons a w ih =>
    simp only [nats, List.map_cons, List.any_cons, eqb_int] at ih ⊢
    rw [ih]
    by_cases h : a = x
    · subst h; simp
    · have : ¬ (a : Int) = (x : Int) := by omega
      have h' : ¬ x = a := fun z => h z.symm
      simp [this, h']
theorem in_list {M : Mem} {q : Nat} {w : List Nat} (h : M[q]? = some (.lst (nats w))) (x : Nat) (neg : Bool) : inF neg (.v (.int (x : Int))) (.v (.ref q)) M = some (.v (.bl (if neg then !decide (x ∈ w) else decide (x ∈ w))), M) := by
  have hf : flatD (.int (x : Int)) = true ∧ (nats w).all flatD = true := ⟨rfl, by simp [nats, flatD]⟩
  simp only [inF, form, seqOf, h, Option.bind_some, if_pos hf, any_nats]
theorem findIdx_nl (w : List Nat) (x : Nat) (h : x ∈ w) : ((nats w).findIdx? fun d => d.eqb (.int (x : Int))) = some (w.idxOf x) := by
  induction w with
  | nil => simp at h
  | cons a w ih =>
    simp only [nats, List.map_cons, List.findIdx?_cons, eqb_int]
    by_cases hax : a = x
    · subst hax; simp
    · have : ¬ (a : Int) = (x : Int) := by omega
      have hw : x ∈ w := by
        rcases List.mem_cons.mp h with h | h
        · exact absurd h.symm hax
        · exact h
      simp only [this, decide_false]
      have := ih hw
      simp only [nats] at this
      have hb : (a == x) = false := by simpa using hax
      simp [this, List.idxOf_cons, hb]
theorem okL_nats (n : Nat) (w : List Nat) : okL n (nats w) = true := by
  induction w with
  | nil => simp [nats, okL]
  | cons a w ih => simp only [nats, List.map_cons] at ih ⊢; rw [okL, ih]; simp [okD]
theorem idx_list {M : Mem} {q : Nat} {w : List Nat} (h : M[q]? = some (.lst (nats w))) {x : Nat} (hx : x ∈ w) : idxLF (.v (.ref q)) (.v (.int (x : Int))) M = some (.v (.int ((w.idxOf x : Nat) : Int)), M) := by
  have hc : okL 63 (nats w) = true ∧ okD 64 (.int (x : Int)) = true := ⟨okL_nats _ _, by simp [okD]⟩
  simp only [idxLF, lstOf, h, Option.bind_some, if_pos hc, findIdx_nl w x hx, Option.map_some]
theorem sl_ref {M : Mem} {q : Nat} {xs : List D} (h : M[q]? = some (.lst xs)) (lo hi : Option Int) : slF (.v (.ref q)) lo hi M = some (.o (.lst (cutD xs lo hi)), M) := by simp [slF, seqOf, h]
theorem add_ol {a b : List D} (h : a.length + b.length ≤ 90000) (M : Mem) : addF (.o (.lst a)) (.o (.lst b)) M = some (.o (.lst (a ++ b)), M) := by
  have hf : fits (a.length + b.length) := fits_of (by omega)
  simp only [addF, lstOf, Option.bind_some, if_pos hf]
theorem getD_get {w : List Nat} {i : Nat} (h : i < w.length) : w.getD i 0 = w[i] := by simp [List.getD, h]
theorem stp_rows {m : List (List Nat)} {r a : Nat} (hr : r < m.length) (ha : a < m[r].length) : stp m r a = m[r][a] := by
  unfold stp; simp [List.getD, List.getElem?_eq_getElem hr, List.getElem?_eq_getElem ha]
theorem ix_tup {ds : List D} {i : Nat} {d : D} (h : ds[i]? = some d) (M : Mem) : ixF (.v (.tup ds)) (.v (.int (i : Int))) M = some (.v d, M) := by
  obtain ⟨hi, e⟩ := List.getElem?_eq_some_iff.mp h
  simp only [ixF, seqOf, Option.bind_some]
  rw [atI_get _ _ hi, e]; rfl
theorem sto_ref {M : Mem} {q : Nat} {w : List Nat} {i x : Nat} (h : M[q]? = some (.lst (nats w))) (hi : i < w.length) : stoF (.v (.ref q)) (.v (.int (i : Int))) (.int (x : Int)) M = some (M.set q (.lst (nats (w.set i x)))) := by
  have : ixN (nats w).length (i : Int) = some i := by unfold ixN; simp; omega
  simp only [stoF, h, this, Option.map_some]
  simp [nats, List.map_set]
theorem isi_bb (b : Bool) (M : Mem) : isiF .bool (.v (.bl b)) M = some (.v (.bl true), M) := by simp [isiF, tyOf]; decide
theorem ne_bb (a b : Bool) (M : Mem) : neF (.v (.bl a)) (.v (.bl b)) M = some (.v (.bl (!decide (a = b))), M) := by cases a <;> cases b <;> simp [neF, form, okD, D.eqb]
def k_LETTERS : Str := "abcdefghijklmnopqrstuvwxyz"
noncomputable def is_name_E1 (ρ : Env) (m : Mem) : Option (Out × Mem) := (eBin (inF false) (eVar 1) (eC (.str k_LETTERS))) ρ m
theorem w_is_name_E1 {ρ : Env} {M : Mem} {Q : PO2} : WE is_name_E1 ρ M Q ↔ WE (eBin (inF false) (eVar 1) (eC (.str k_LETTERS))) ρ M Q := Iff.rfl
noncomputable def m_is_name : Fn := fnD 1 2
    (sRet (eAnd (eUn (isiF .str) (eVar 0)) (eAnd (eChain leF leF (eC (.int 1)) (eUn lenF (eVar 0)) (eC (.int 8))) (eUn allF (eComp (iE (eVar 0)) [1] (.nm 1) bYes is_name_E1)))))
/-! ### names -/
def ltrs : List Nat := List.range' 97 26
theorem ltrs_eq : k_LETTERS = txtS ltrs := by decide
def nameB (cs : List Nat) : Bool := decide (1 ≤ cs.length) && (decide (cs.length ≤ 8) && cs.all fun c => decide (c ∈ ltrs))
def nmB : D → Bool
  | .str z => nameB z.cps.toList
  | _ => false
theorem nmB_txt (cs : List Nat) : nmB (.str (txtS cs)) = nameB cs := by rw [nmB, txt_cps]
theorem isname_eq {d : D} {M : Mem} (h : kn M d) (hz : ∀ z, d = .str z → z.length ≤ 90000) : m_is_name [d] M = some (.v (.bl (nmB d)), M) := by
  refine wo_eq ?_
  unfold m_is_name
  have lo : ∀ b : Bool, (D.bl b).lo M.length := by simp
  simp only [wp, wx, wf, Nat.reduceSub, isi_strB h]
  by_cases hs : ∃ z, d = .str z
  · obtain ⟨z, rfl⟩ := hs
    obtain ⟨cs, rfl⟩ : ∃ cs, z = txtS cs := ⟨_, txt_of z⟩
    have hl : cs.length ≤ 90000 := by have := hz _ rfl; rwa [txt_len] at this
    rw [nmB_txt]
    simp only [isStrB, wp, wx, txt_lenF hl, leF, cmp_int]
    by_cases h1 : 1 ≤ cs.length
    · have h1' : decide ((1 : Int) ≤ (cs.length : Int)) = true := decide_eq_true (by omega)
      simp only [h1', wp, wx, leF, cmp_int]
      by_cases h2 : cs.length ≤ 8
      · have h2' : decide ((cs.length : Int) ≤ 8) = true := decide_eq_true (by omega)
        simp only [h2', wp, wx, txt_src hl]
        refine wc_map (fun c => D.str (txtS [c])) (fun c => .bl (decide (c ∈ ltrs))) cs (fun c hc => ?_) ?_
        · simp only [wp, wx, w_is_name_E1, ltrs_eq, txt_in]
          exact ⟨rfl, rfl⟩
        · simp only [wp, wx, all_map]
          rw [kFn_v (lo _)]
          exact ⟨by simp [nameB, h1, h2], rfl⟩
      · have h2' : decide ((cs.length : Int) ≤ 8) = false := decide_eq_false (by omega)
        simp only [h2', wp, wx]
        rw [kFn_v (lo _)]
        exact ⟨by simp [nameB, h2], rfl⟩
    · have h1' : decide ((1 : Int) ≤ (cs.length : Int)) = false := decide_eq_false (by omega)
      simp only [h1', wp, wx]
      rw [kFn_v (lo _)]
      exact ⟨by simp [nameB, h1], rfl⟩
  · have h1 : isStrB d = false := by cases d <;> first | rfl | exact absurd ⟨_, rfl⟩ hs
    have h2 : nmB d = false := by cases d <;> first | rfl | exact absurd ⟨_, rfl⟩ hs
    simp only [h1, wp, wx]
    rw [kFn_v (lo _), h2]
    exact ⟨rfl, rfl⟩
/-! ### a def's own objects behind the memory, while draws go on -/
def FrA (ab : List Nat) (M M' : Mem) : Prop := M.length ≤ M'.length ∧ ∀ i : Nat, i < M.length → i ∉ ab → M'[i]? = M[i]?
/-- what a def holds of its own stays -/
def Own (M M' M'' : Mem) : Prop := M''.length = M'.length ∧ ∀ q : Nat, M.length ≤ q → M''[q]? = M'[q]?
theorem Own.refl (M M' : Mem) : Own M M' M' := ⟨rfl, fun _ _ => rfl⟩
theorem Own.trans {M M1 M2 M3 : Mem} (h : Own M M1 M2) (k : Own M M2 M3) : Own M M1 M3 := ⟨k.1.trans h.1, fun q hq => (k.2 q hq).trans (h.2 q hq)⟩
structure Loc (ab : List Nat) (S : Mem → Prop) (M M' : Mem) : Prop where
  s0 : S M
  s : S M'
  fr : FrA ab M M'
section
variable {st : D} {ab : List Nat} {S : Mem → Prop} {nx : Fn} {M M' : Mem}
theorem Loc.new (h : S M) : Loc ab S M M := ⟨h, h, Nat.le_refl _, fun _ _ _ => rfl⟩
theorem Loc.le (L : Loc ab S M M') : M.length ≤ M'.length := L.fr.1
theorem Loc.step (g : Gen st ab S nx) (L : Loc ab S M M') {M2 : Mem} (s2 : S M2) (f : Fr ab M' M2) : Loc ab S M M2 ∧ Own M M' M2 :=
  ⟨⟨L.s0, s2, by rw [f.1]; exact L.fr.1, fun i hi hab => by rw [f.2 i hab]; exact L.fr.2 i hi hab⟩, f.1, fun q hq => f.2 q fun hab => absurd (g.ins M L.s0 q hab) (by omega)⟩
theorem Loc.w (g : Gen st ab S nx) (L : Loc ab S M M') {n : Nat} (hn : 0 < n) (hn2 : n ≤ 100000) {K : PO2} (k : ∀ (r : Nat) (M2 : Mem), r < n → Loc ab S M M2 → Own M M' M2 → K (.v (.int (r : Int))) M2) : WO (nx [st, .int (n : Int)] M') K :=
  g.w L.s hn hn2 fun r M2 hr s2 f2 => let ⟨a, b⟩ := L.step g s2 f2; k r M2 hr a b
theorem Loc.app (g : Gen st ab S nx) (L : Loc ab S M M') (e : Mem) : Loc ab S M (M' ++ e) := ⟨L.s0, g.app L.s e, by simp; have := L.fr.1; omega, fun i hi hab => by rw [List.getElem?_append_left (by have := L.fr.1; omega)]; exact L.fr.2 i hi hab⟩
theorem Loc.set (g : Gen st ab S nx) (L : Loc ab S M M') {q : Nat} (hq : M.length ≤ q) (o : Ob) : Loc ab S M (M'.set q o) :=
  ⟨L.s0, g.keep M' _ L.s fun i hi => by have := g.ins M L.s0 i hi; rw [List.getElem?_set_ne (by omega)], by simp; exact L.fr.1, fun i hi hab => by rw [List.getElem?_set_ne (by omega)]; exact L.fr.2 i hi hab⟩
theorem Loc.split (g : Gen st ab S nx) (L : Loc ab S M M') : ∃ M1 e, M' = M1 ++ e ∧ S M1 ∧ Fr ab M M1 := by
  have hl := L.fr.1
  refine ⟨M'.take M.length, M'.drop M.length, (List.take_append_drop _ _).symm, g.keep M' _ L.s fun i hi => ?_, ?_, fun i hi => ?_⟩
  · rw [List.getElem?_take_of_lt (g.ins M L.s0 i hi)]
  · rw [List.length_take]; omega
  · by_cases hj : i < M.length
    · rw [List.getElem?_take_of_lt hj, L.fr.2 i hj hi]
    · rw [List.getElem?_eq_none (by simp; omega), List.getElem?_eq_none (by omega)]
theorem Loc.kFn (g : Gen st ab S nx) (L : Loc ab S M M') {d : D} {K : PO2} (hd : d.lo M.length) (k : ∀ M1, S M1 → Fr ab M M1 → K (.v d) M1) : Q.kFn M K (.rt (.v d) M') := by
  obtain ⟨M1, e, rfl, s1, f1⟩ := L.split g
  rw [g.kFna f1 s1 hd]
  exact k M1 s1 f1
theorem Loc.kFnR (g : Gen st ab S nx) (L : Loc ab S M M') {b : Ob} {q : Nat} {K : PO2} (hq : M.length ≤ q) (he : M'[q]? = some b) (hd : b.lo M.length) (k : ∀ M1, S M1 → Fr ab M M1 → K (.o b) M1) : Q.kFn M K (.rt (.v (.ref q)) M') := by
  obtain ⟨M1, e, rfl, s1, f1⟩ := L.split g
  rw [kFn_rt, g.shutL f1 s1 hq he hd]
  exact k M1 s1 f1
theorem Loc.kFnO (g : Gen st ab S nx) (L : Loc ab S M M') {b : Ob} {K : PO2} (hd : b.lo M.length) (k : ∀ M1, S M1 → Fr ab M M1 → K (.o b) M1) : Q.kFn M K (.rt (.o b) M') := by
  obtain ⟨M1, e, rfl, s1, f1⟩ := L.split g
  rw [kFn_rt, g.shutO f1 s1 hd]
  exact k M1 s1 f1
/-- a tuple with a place of its own in it is handed back: all is kept -/
theorem Loc.kFnT (g : Gen st ab S nx) (L : Loc ab S M M') {xs : List D} {K : PO2} (hd : ¬ loL M.length xs) (k : K (.v (.tup xs)) M') : Q.kFn M K (.rt (.v (.tup xs)) M') := by
  obtain ⟨M1, e, rfl, s1, f1⟩ := L.split g
  rw [kFn_rt]
  unfold Q.shut
  rw [if_pos (g.okM f1 s1 e)]
  have : ¬ D.lo M.length (.tup xs) := by simpa using hd
  simp only [if_neg this]
  exact k
/-- draws that fill a list -/
theorem Loc.wds (g : Gen st ab S nx) (L : Loc ab S M M') {n : Nat} (hn : 0 < n) (hn2 : n ≤ 100000) {t : Tg} {f : E} {ρ : Env} {xs : List D} {Q : List D → Mem → Prop}
    (hE : ∀ x ∈ xs, WEnv (t.put x ρ) fun ρ' => ∀ (M : Mem) (K : PO2), WO (nx [st, .int (n : Int)] M) K → WE f ρ' M K)
    (k : ∀ (w : List Nat) (M2 : Mem), w.length = xs.length → (∀ r ∈ w, r < n) → Loc ab S M M2 → Own M M' M2 → Q (nats w) M2) : WC t bYes f [] ρ xs M' Q :=
  g.wds hn hn2 L.s hE fun w M2 hw hr s2 f2 => let ⟨a, b⟩ := L.step g s2 f2; k w M2 hw hr a b
end
theorem get_app {M : Mem} {e : Mem} {q : Nat} {o : Ob} (h : M[q]? = some o) : (M ++ e)[q]? = some o := by rw [List.getElem?_append_left (List.getElem?_eq_some_iff.mp h).1]; exact h
theorem get_lt {M : Mem} {q : Nat} {o : Ob} (h : M[q]? = some o) : q < M.length := (List.getElem?_eq_some_iff.mp h).1
theorem get_put {M : Mem} {q : Nat} {o o' : Ob} (h : M[q]? = some o) : (M.set q o')[q]? = some o' := by rw [List.getElem?_set_self (get_lt h)]
theorem get_other {M : Mem} {q p : Nat} {o o' : Ob} (h : M[q]? = some o) (hp : p ≠ q) : (M.set p o')[q]? = some o := by rw [List.getElem?_set_ne hp]; exact h
theorem Own.get {M M1 M2 : Mem} (h : Own M M1 M2) {q : Nat} {o : Ob} (hq : M.length ≤ q) (e : M1[q]? = some o) : M2[q]? = some o := by rw [h.2 q hq]; exact e
theorem app_ref {M : Mem} {q : Nat} {xs : List D} {d : D} (h : M[q]? = some (.lst xs)) (hl : xs.length ≤ 90000) : appF (.v (.ref q)) (.v d) M = some (.v .non, M.set q (.lst (xs ++ [d]))) := by
  have hf : fits (xs.length + 1) := fits_of (by omega)
  simp only [appF, h, if_pos hf, val_v]
theorem app_refO {M : Mem} {q : Nat} {xs : List D} {o : Ob} (h : M[q]? = some (.lst xs)) (hl : xs.length ≤ 90000) : appF (.v (.ref q)) (.o o) M = some (.v .non, (M ++ [o]).set q (.lst (xs ++ [.ref M.length]))) := by
  have hf : fits (xs.length + 1) := fits_of (by omega)
  simp only [appF, h, if_pos hf, val_o]
theorem snocRec {α : Type} {P : List α → Prop} (nil : P []) (snoc : ∀ (l : List α) (x : α), P l → P (l ++ [x])) (l : List α) : P l := by
  have : ∀ r : List α, P r.reverse := fun r => by
    induction r with
    | nil => exact nil
    | cons a r ih => rw [List.reverse_cons]; exact snoc _ _ ih
  have h := this l.reverse
  rw [List.reverse_reverse] at h
  exact h
theorem flat_nats (w : List Nat) : (nats w).all flatD = true := by simp [flatD]
theorem findIdx_nats : ∀ (o : List Nat) (r : Nat), r ∈ o → (nats o).findIdx? (fun d => d.eqb (.int (r : Int))) = some (o.idxOf r)
  | [], r, h => by simp at h
  | x :: o, r, h => by
    by_cases hx : x = r
    · subst hx
      simp [List.findIdx?_cons, D.eqb]
    · have hx' : ¬ (x : Int) = (r : Int) := by omega
      have ih := findIdx_nats o r (by
        rcases List.mem_cons.mp h with e | e
        · exact absurd e.symm hx
        · exact e)
      rw [show nats (x :: o) = .int (x : Int) :: nats o from rfl, List.findIdx?_cons, ih]
      have : (x == r) = false := by simp [hx]
      simp [D.eqb, hx', List.idxOf_cons, this]
theorem idx_nat {o : List Nat} {r : Nat} (h : r ∈ o) (M : Mem) : idxTF (.v (tN o)) (.v (.int (r : Int))) M = some (.v (.int ((o.idxOf r : Nat) : Int)), M) := by
  have hf := findIdx_nats o r h
  have ha := flat_nats o
  simp only [tN, idxTF, form, Option.bind_some, flatD, ha, and_self, if_true, hf, Option.map_some]
mutual
theorem eqb_refl : ∀ (n : Nat) (d : D), okD n d = true → d.eqb d = true
  | _, .non, _ => by simp [D.eqb]
  | _, .bl _, _ => by simp [D.eqb]
  | _, .int _, _ => by simp [D.eqb]
  | _, .str _, _ => by simp [D.eqb]
  | 0, .tup _, h => by simp [okD] at h
  | n + 1, .tup xs, h => by simp only [okD] at h; simp only [D.eqb]; exact eqbL_refl n xs h
  | 0, .fl _, h => by simp [okD] at h
  | n + 1, .fl xs, h => by simp only [okD] at h; simp only [D.eqb]; exact eqbL_refl n xs h
  | _, .par _, h => by simp [okD] at h
  | _, .ref _, h => by simp [okD] at h
  | _, .lam _ _, h => by simp [okD] at h
theorem eqbL_refl : ∀ (n : Nat) (d : List D), okL n d = true → eqbL d d = true
  | _, [], _ => by simp [eqbL]
  | n, d :: ds, h => by
    simp only [okL, Bool.and_eq_true] at h
    simp only [eqbL, eqb_refl n d h.1, eqbL_refl n ds h.2, Bool.and_self]
end
theorem ne_same {x y : Out} {d : D} {M : Mem} (h1 : form x M = some d) (h2 : form y M = some d) (ho : okD 64 d = true) : neF x y M = some (.v (.bl false), M) := by
  simp only [neF, h1, h2, Option.bind_some, if_pos (And.intro ho ho), eqb_refl 64 d ho, Bool.not_true]
theorem eq_same {x y : Out} {d : D} {M : Mem} (h1 : form x M = some d) (h2 : form y M = some d) (ho : okD 64 d = true) : eqF x y M = some (.v (.bl true), M) := by
  simp only [eqF, h1, h2, Option.bind_some, if_pos (And.intro ho ho), eqb_refl 64 d ho]
theorem form_ref {q : Nat} {xs : List D} {M : Mem} (h : M[q]? = some (.lst xs)) : form (.v (.ref q)) M = some (.fl xs) := by simp [form, h]
theorem form_ol (xs : List D) (M : Mem) : form (.o (.lst xs)) M = some (.fl xs) := by simp [form]
/-! ### a search by a row of things, each with a label: what is met first has the least label -/
section
variable {α β : Type}
def keysB (fr : List (α × β)) : List α := fr.map (·.1)
variable [DecidableEq α]
def put1 (fr : List (α × β)) (c : α × β) : List (α × β) := if c.1 ∈ keysB fr then fr else fr ++ [c]
def addAll (fr : List (α × β)) (cs : List (α × β)) : List (α × β) := cs.foldl put1 fr
theorem put1_in {fr : List (α × β)} {c : α × β} (h : c.1 ∈ keysB fr) : put1 fr c = fr := by unfold put1; rw [if_pos h]
theorem put1_new {fr : List (α × β)} {c : α × β} (h : c.1 ∉ keysB fr) : put1 fr c = fr ++ [c] := by unfold put1; rw [if_neg h]
theorem addAll_take {fr : List (α × β)} {cs : List (α × β)} {i : Nat} (hi : i < cs.length) : addAll fr (cs.take (i + 1)) = put1 (addAll fr (cs.take i)) cs[i] := by
  unfold addAll
  rw [List.take_add_one, List.getElem?_eq_getElem hi, Option.toList_some, List.foldl_append]
  rfl
variable (nx : α × β → List (α × β)) (lt : β → β → Prop) (sd : List (α × β))
structure Rule : Prop where
  two : ∀ q q' c c', lt q.2 q'.2 → c ∈ nx q → c' ∈ nx q' → lt c.2 c'.2
  own : ∀ q, (nx q).Pairwise fun c c' => lt c.2 c'.2
  sds : ∀ s ∈ sd, ∀ q c, c ∈ nx q → lt s.2 c.2
  srt : sd.Pairwise fun c c' => lt c.2 c'.2
  nd : (keysB sd).Nodup
/-- what can be come to, by what label -/
inductive Der (nx : α × β → List (α × β)) (sd : List (α × β)) : α × β → Prop
  | sd {c : α × β} : c ∈ sd → Der nx sd c
  | go {q c : α × β} : Der nx sd q → c ∈ nx q → Der nx sd c
/-- at so many of the row are gone through -/
structure Bfs (at_ : Nat) (fr : List (α × β)) : Prop where
  nd : (keysB fr).Nodup
  srt : fr.Pairwise fun c c' => lt c.2 c'.2
  par : ∀ c ∈ fr, c ∈ sd ∨ ∃ (i : Nat) (q : α × β), i < at_ ∧ fr[i]? = some q ∧ c ∈ nx q
  seeds : ∀ c ∈ sd, c ∈ fr
  fst : ∀ (i : Nat) (q : α × β), i < at_ → fr[i]? = some q → ∀ c ∈ nx q, ∃ c1 ∈ fr, c1.1 = c.1 ∧ (c1 = c ∨ lt c1.2 c.2)
  le : at_ ≤ fr.length
  dr : ∀ c ∈ fr, Der nx sd c
theorem Bfs.init (R : Rule nx lt sd) : Bfs nx lt sd 0 sd := ⟨R.nd, R.srt, fun c h => .inl h, fun c h => h, fun i q h => by omega, Nat.zero_le _, fun c h => .sd h⟩
variable {nx lt sd}
theorem addAll_pre (fr : List (α × β)) : ∀ cs : List (α × β), ∃ e, addAll fr cs = fr ++ e ∧ ∀ c ∈ e, c ∈ cs := by
  intro cs
  induction cs generalizing fr with
  | nil => exact ⟨[], by simp [addAll], by simp⟩
  | cons c cs ih =>
    obtain ⟨e, h1, h2⟩ := ih (put1 fr c)
    have e0 : addAll fr (c :: cs) = addAll (put1 fr c) cs := rfl
    by_cases h : c.1 ∈ keysB fr
    · rw [e0, put1_in h] at *
      exact ⟨e, h1, fun x hx => by simp [h2 x hx]⟩
    · rw [put1_new h] at h1
      rw [e0, put1_new h]
      refine ⟨c :: e, by rw [h1]; simp, fun x hx => ?_⟩
      rcases List.mem_cons.mp hx with rfl | hx
      · simp
      · simp [h2 x hx]
theorem Bfs.step (R : Rule nx lt sd) {at_ : Nat} {fr : List (α × β)} (B : Bfs nx lt sd at_ fr) {q : α × β} (hq : fr[at_]? = some q) : Bfs nx lt sd (at_ + 1) (addAll fr (nx q)) := by
  have hlt : at_ < fr.length := (List.getElem?_eq_some_iff.mp hq).1
  -- what stands ahead of the round is before each candidate
  have old : ∀ c1 ∈ fr, ∀ c ∈ nx q, lt c1.2 c.2 := fun c1 h1 c hc => by
    rcases B.par c1 h1 with h | ⟨i, q1, hi, hq1, hc1⟩
    · exact R.sds c1 h q c hc
    · obtain ⟨hi1, e1⟩ := List.getElem?_eq_some_iff.mp hq1
      obtain ⟨_, e2⟩ := List.getElem?_eq_some_iff.mp hq
      have := List.pairwise_iff_getElem.mp B.srt i at_ hi1 hlt hi
      rw [e1, e2] at this
      exact R.two q1 q c1 c this hc1 hc
  -- the round
  have round : ∀ (cs done : List (α × β)) (g : List (α × β)), nx q = done ++ cs → (keysB g).Nodup → (g.Pairwise fun c c' => lt c.2 c'.2) → (∃ e, g = fr ++ e ∧ ∀ c ∈ e, c ∈ done) → (∀ c ∈ done, ∃ c1 ∈ g, c1.1 = c.1 ∧ (c1 = c ∨ lt c1.2 c.2)) →
      (keysB (addAll g cs)).Nodup ∧ ((addAll g cs).Pairwise fun c c' => lt c.2 c'.2) ∧ ∀ c ∈ nx q, ∃ c1 ∈ addAll g cs, c1.1 = c.1 ∧ (c1 = c ∨ lt c1.2 c.2) := by
    intro cs
    induction cs with
    | nil => intro done g e nd srt _ hf; rw [List.append_nil] at e; exact ⟨nd, srt, by rw [e]; exact hf⟩
    | cons c cs ih =>
      intro done g e nd srt ⟨ex, eg, hex⟩ hf
      have hcq : c ∈ nx q := by rw [e]; simp
      have before : ∀ c1 ∈ g, lt c1.2 c.2 := fun c1 h1 => by
        rw [eg] at h1
        rcases List.mem_append.mp h1 with h1 | h1
        · exact old c1 h1 c hcq
        · have := R.own q
          rw [e] at this
          exact (List.pairwise_append.mp this).2.2 c1 (hex c1 h1) c (by simp)
      show (keysB (addAll (put1 g c) cs)).Nodup ∧ _
      by_cases hk : c.1 ∈ keysB g
      · refine ih (done ++ [c]) (put1 g c) (by rw [e]; simp) (by rw [put1_in hk]; exact nd) (by rw [put1_in hk]; exact srt) ⟨ex, by rw [put1_in hk]; exact eg, fun x hx => by simp [hex x hx]⟩ (fun x hx => ?_)
        rw [put1_in hk]
        rcases List.mem_append.mp hx with hx | hx
        · exact hf x hx
        · simp at hx; subst hx
          obtain ⟨c1, h1, e1⟩ := List.mem_map.mp hk
          exact ⟨c1, h1, e1, .inr (before c1 h1)⟩
      · refine ih (done ++ [c]) (put1 g c) (by rw [e]; simp) ?_ ?_ ⟨ex ++ [c], by rw [put1_new hk, eg]; simp, fun x hx => ?_⟩ (fun x hx => ?_)
        · rw [put1_new hk]
          show (List.map _ _).Nodup
          rw [List.map_append, List.nodup_append]
          exact ⟨nd, by simp, fun a ha b hb => by simp at hb; subst hb; intro z; subst z; exact hk ha⟩
        · rw [put1_new hk, List.pairwise_append]
          exact ⟨srt, by simp, fun a ha b hb => by simp at hb; subst hb; exact before a ha⟩
        · rcases List.mem_append.mp hx with hx | hx
          · simp [hex x hx]
          · simp at hx; subst hx; simp
        · rw [put1_new hk]
          rcases List.mem_append.mp hx with hx | hx
          · obtain ⟨c1, h1, h2⟩ := hf x hx; exact ⟨c1, by simp [h1], h2⟩
          · simp at hx; subst hx; exact ⟨x, by simp, rfl, .inl rfl⟩
  obtain ⟨h1, h2, h3⟩ := round (nx q) [] fr rfl B.nd B.srt ⟨[], by simp, by simp⟩ (by simp)
  obtain ⟨e, he, hec⟩ := addAll_pre fr (nx q)
  have get : ∀ (i : Nat) (x : α × β), fr[i]? = some x → (addAll fr (nx q))[i]? = some x := fun i x hx => by
    rw [he, List.getElem?_append_left (List.getElem?_eq_some_iff.mp hx).1]; exact hx
  have gback : ∀ (i : Nat) (x : α × β), i < at_ + 1 → (addAll fr (nx q))[i]? = some x → fr[i]? = some x := fun i x hi hx => by
    rw [he, List.getElem?_append_left (by omega)] at hx; exact hx
  have sub : ∀ c ∈ fr, c ∈ addAll fr (nx q) := fun c hc => by rw [he]; simp [hc]
  refine ⟨h1, h2, fun c hc => ?_, fun c hc => sub c (B.seeds c hc), fun i q' hi hq' c hc => ?_, by rw [he]; simp; omega, fun c hc => ?_⟩
  · rw [he] at hc
    rcases List.mem_append.mp hc with hc | hc
    · rcases B.par c hc with h | ⟨i, q1, hi, hq1, hc1⟩
      · exact .inl h
      · exact .inr ⟨i, q1, by omega, get i q1 hq1, hc1⟩
    · exact .inr ⟨at_, q, by omega, get at_ q hq, hec c hc⟩
  · by_cases hia : i < at_
    · obtain ⟨c1, h4, h5⟩ := B.fst i q' hia (gback i q' hi hq') c hc
      exact ⟨c1, sub c1 h4, h5⟩
    · have : i = at_ := by omega
      subst this
      have := gback i q' hi hq'
      rw [hq] at this
      cases this
      exact h3 c hc
  · rw [he] at hc
    rcases List.mem_append.mp hc with hc | hc
    · exact B.dr c hc
    · exact .go (B.dr q (List.mem_of_getElem? hq)) (hec c hc)
theorem Bfs.least (tr : ∀ a b c, lt a b → lt b c → lt a c) (mono : ∀ (p : α) (v v' : β) (c : α × β), lt v v' → c ∈ nx (p, v') → ∃ c0 ∈ nx (p, v), c0.1 = c.1 ∧ (c0 = c ∨ lt c0.2 c.2)) {fr : List (α × β)} (B : Bfs nx lt sd fr.length fr) :
    ∀ c, Der nx sd c → ∃ c1 ∈ fr, c1.1 = c.1 ∧ (c1 = c ∨ lt c1.2 c.2) := by
  intro c d
  induction d with
  | sd h => exact ⟨_, B.seeds _ h, rfl, .inl rfl⟩
  | @go q c _ hc ih =>
    obtain ⟨q1, h1, e1, h2⟩ := ih
    obtain ⟨i, hi, eq⟩ := List.getElem_of_mem h1
    have hq1 : fr[i]? = some q1 := by rw [List.getElem?_eq_getElem hi, eq]
    rcases h2 with rfl | h2
    · exact B.fst i q1 hi hq1 c hc
    · obtain ⟨p, v⟩ := q1
      obtain ⟨p', v'⟩ := q
      simp only at e1 h2
      subst e1
      obtain ⟨c0, h3, e3, h4⟩ := mono p v v' c h2 hc
      obtain ⟨c1, h5, e5, h6⟩ := B.fst i (p, v) hi hq1 c0 h3
      refine ⟨c1, h5, e5.trans e3, ?_⟩
      rcases h6 with rfl | h6
      · rcases h4 with rfl | h4
        · exact .inl rfl
        · exact .inr h4
      · rcases h4 with rfl | h4
        · exact .inr h6
        · exact .inr (tr _ _ _ h6 h4)
end
/-! ### pairs of rooms, plain -/
theorem pw_all {α : Type} {R : α → α → Prop} (h : ∀ a b, R a b) : ∀ l : List α, l.Pairwise R
  | [] => .nil
  | a :: l => .cons (fun b _ => h a b) (pw_all h l)
abbrev P2 := Nat × Nat
def ordP (a b : Nat) : P2 := (min a b, max a b)
def behN (m : List (List Nat)) (p : P2) (a : Nat) : Option P2 := if stp m p.1 a = stp m p.2 a then none else some (ordP (stp m p.1 a) (stp m p.2 a))
def PairOk (n : Nat) (p : P2) : Prop := p.1 < p.2 ∧ p.2 < n
theorem behN_ok {m : List (List Nat)} {l : Nat} (hm : Mach m l) {p q : P2} (hp : PairOk m.length p) {a : Nat} (ha : a < l) (h : behN m p a = some q) : PairOk m.length q := by
  unfold behN at h
  split at h
  · cases h
  · rename_i hne
    cases h
    have h1 := stp_lt hm (Nat.lt_trans hp.1 hp.2) ha
    have h2 := stp_lt hm hp.2 ha
    unfold ordP PairOk
    simp only
    omega
/-- a word that leads a pair to one room -/
def Mrg (m : List (List Nat)) (w : List Nat) (p : P2) : Prop := ledN m p.1 w = ledN m p.2 w
theorem mrg_cons (m : List (List Nat)) (a : Nat) (w : List Nat) (p : P2) : Mrg m (a :: w) p ↔ match behN m p a with | none => True | some q => Mrg m w q := by
  unfold behN
  have e1 : ∀ r, ledN m r (a :: w) = ledN m (stp m r a) w := fun r => rfl
  unfold Mrg
  rw [e1, e1]
  by_cases h : stp m p.1 a = stp m p.2 a
  · rw [if_pos h, h]; simp
  · rw [if_neg h]
    simp only [ordP]
    by_cases h2 : stp m p.1 a ≤ stp m p.2 a
    · rw [Nat.min_eq_left h2, Nat.max_eq_right h2]
    · rw [Nat.min_eq_right (by omega), Nat.max_eq_left (by omega)]; exact ⟨Eq.symm, Eq.symm⟩
theorem mrg_nil {m : List (List Nat)} {n : Nat} {p : P2} (hp : PairOk n p) : ¬ Mrg m [] p := fun h => by
  have := hp.1
  simp only [Mrg, ledN_nil] at h
  omega
def prs : List Nat → List P2
  | [] => []
  | x :: S => (S.map fun y => (x, y)) ++ prs S
theorem prs_mem : ∀ {S : List Nat}, S.Pairwise (· < ·) → ∀ p : P2, p ∈ prs S ↔ p.1 ∈ S ∧ p.2 ∈ S ∧ p.1 < p.2
  | [], _, p => by simp [prs]
  | x :: S, h, p => by
    obtain ⟨h1, h2⟩ := List.pairwise_cons.mp h
    obtain ⟨a, b⟩ := p
    rw [prs, List.mem_append, prs_mem h2]
    simp only [List.mem_map, Prod.mk.injEq, List.mem_cons]
    constructor
    · rintro (⟨y, hy, rfl, rfl⟩ | ⟨h3, h4, h5⟩)
      · exact ⟨.inl rfl, .inr hy, h1 y hy⟩
      · exact ⟨.inr h3, .inr h4, h5⟩
    · rintro ⟨h3 | h3, h4 | h4, h5⟩
      · omega
      · exact .inl ⟨b, h4, h3.symm, rfl⟩
      · have := h1 a h3; omega
      · exact .inr ⟨h3, h4, h5⟩
theorem prs_nodup : ∀ {S : List Nat}, S.Pairwise (· < ·) → (prs S).Nodup
  | [], _ => by simp [prs]
  | x :: S, h => by
    obtain ⟨h1, h2⟩ := List.pairwise_cons.mp h
    rw [prs, List.nodup_append]
    refine ⟨?_, prs_nodup h2, fun a ha b hb e => ?_⟩
    · have hS : S.Nodup := h2.imp fun h => by omega
      exact List.Pairwise.map _ (fun a b hab => by simpa using hab) hS
    · subst e
      obtain ⟨y, hy, rfl⟩ := List.mem_map.mp ha
      have := ((prs_mem h2 _).mp hb).1
      have := h1 _ this
      simp only at this
      omega
theorem prs_len : ∀ S : List Nat, (prs S).length ≤ S.length * S.length
  | [] => by simp [prs]
  | x :: S => by
    have := prs_len S
    simp only [prs, List.length_append, List.length_map, List.length_cons]
    have e : (S.length + 1) * (S.length + 1) = S.length * S.length + 2 * S.length + 1 := by rw [Nat.add_mul, Nat.mul_add]; omega
    omega
def allP (m : List (List Nat)) : List P2 := prs (List.range m.length)
theorem allP_mem {m : List (List Nat)} {p : P2} : p ∈ allP m ↔ PairOk m.length p := by
  unfold allP PairOk
  rw [prs_mem List.pairwise_lt_range]
  simp only [List.mem_range]
  omega
/-- the pairs that letters lead to a pair, or to one room -/
def nbr (m : List (List Nat)) (l : Nat) (o : Option P2) : List P2 := (allP m).flatMap fun p => ((List.range l).filter fun a => decide (behN m p a = o)).map fun _ => p
theorem nbr_mem {m : List (List Nat)} {l : Nat} {o : Option P2} {p : P2} : p ∈ nbr m l o ↔ PairOk m.length p ∧ ∃ a, a < l ∧ behN m p a = o := by
  unfold nbr
  simp only [List.mem_flatMap, List.mem_map, List.mem_filter, List.mem_range, decide_eq_true_eq, allP_mem]
  constructor
  · rintro ⟨q, hq, a, ⟨h1, h2⟩, rfl⟩; exact ⟨hq, a, h1, h2⟩
  · rintro ⟨hq, a, h1, h2⟩; exact ⟨p, hq, a, ⟨h1, h2⟩, rfl⟩
def joinB (m : List (List Nat)) (l : Nat) (p : P2) : Bool := (List.range l).any fun a => decide (behN m p a = none)
theorem joinB_iff {m : List (List Nat)} {l : Nat} {p : P2} : joinB m l p = true ↔ ∃ a, a < l ∧ behN m p a = none := by
  unfold joinB
  simp [List.any_eq_true]
def lnx (m : List (List Nat)) (l : Nat) (c : P2 × Nat) : List (P2 × Nat) := (nbr m l (some c.1)).map fun p => (p, c.2 + 1)
def lsd (m : List (List Nat)) (l : Nat) : List (P2 × Nat) := ((allP m).filter (joinB m l)).map fun p => (p, 1)
theorem lrule (m : List (List Nat)) (l : Nat) : Rule (lnx m l) (· ≤ ·) (lsd m l) where
  two := fun q q' c c' h hc hc' => by
    obtain ⟨p, _, rfl⟩ := List.mem_map.mp hc
    obtain ⟨p', _, rfl⟩ := List.mem_map.mp hc'
    simp only; omega
  own := fun q => by
    unfold lnx
    rw [List.pairwise_map]
    exact pw_all (fun _ _ => Nat.le_refl _) _
  sds := fun s hs q c hc => by
    obtain ⟨p, _, rfl⟩ := List.mem_map.mp hs
    obtain ⟨p', _, rfl⟩ := List.mem_map.mp hc
    simp only; omega
  srt := by
    unfold lsd
    rw [List.pairwise_map]
    exact pw_all (fun _ _ => Nat.le_refl _) _
  nd := by
    unfold keysB lsd
    rw [List.map_map]
    have : ((fun (x : P2 × Nat) => x.1) ∘ fun p => (p, 1)) = id := rfl
    rw [this, List.map_id]
    exact (prs_nodup List.pairwise_lt_range).filter _
/-- all lengths -/
def Lens (m : List (List Nat)) (l : Nat) (fr : List (P2 × Nat)) : Prop := Bfs (lnx m l) (· ≤ ·) (lsd m l) fr.length fr
section
variable {m : List (List Nat)} {l : Nat} {fr : List (P2 × Nat)}
theorem lens_der : ∀ c : P2 × Nat, Der (lnx m l) (lsd m l) c → PairOk m.length c.1 ∧ ∃ w : List Nat, w.length = c.2 ∧ 0 < c.2 ∧ (∀ a ∈ w, a < l) ∧ Mrg m w c.1 := by
  intro c d
  induction d with
  | sd h =>
    obtain ⟨p, hp, rfl⟩ := List.mem_map.mp h
    obtain ⟨h1, h2⟩ := List.mem_filter.mp hp
    obtain ⟨a, ha, hb⟩ := joinB_iff.mp h2
    refine ⟨allP_mem.mp h1, [a], rfl, Nat.one_pos, by simpa using ha, ?_⟩
    rw [mrg_cons, hb]; trivial
  | @go q c _ hc ih =>
    obtain ⟨p, hp, rfl⟩ := List.mem_map.mp hc
    obtain ⟨h1, a, ha, hb⟩ := nbr_mem.mp hp
    obtain ⟨_, w, hw, hw0, hwl, hwm⟩ := ih
    refine ⟨h1, a :: w, by simp [hw], by simp, fun x hx => ?_, ?_⟩
    · rcases List.mem_cons.mp hx with rfl | hx
      · exact ha
      · exact hwl x hx
    · rw [mrg_cons, hb]; exact hwm
theorem der_lens (hm : Mach m l) : ∀ (w : List Nat) (p : P2), PairOk m.length p → (∀ a ∈ w, a < l) → Mrg m w p → ∃ k, k ≤ w.length ∧ Der (lnx m l) (lsd m l) (p, k)
  | [], p, hp, _, h => absurd h (mrg_nil hp)
  | a :: w, p, hp, hw, h => by
    have ha := hw a (by simp)
    rw [mrg_cons] at h
    cases hb : behN m p a with
    | none =>
      refine ⟨1, by simp, .sd (List.mem_map.mpr ⟨p, List.mem_filter.mpr ⟨allP_mem.mpr hp, joinB_iff.mpr ⟨a, ha, hb⟩⟩, rfl⟩)⟩
    | some q =>
      rw [hb] at h
      obtain ⟨k, hk, d⟩ := der_lens hm w q (behN_ok hm hp ha hb) (fun b hb => hw b (by simp [hb])) h
      exact ⟨k + 1, by simp; omega, .go d (List.mem_map.mpr ⟨p, nbr_mem.mpr ⟨hp, a, ha, hb⟩, rfl⟩)⟩
theorem Lens.word (L : Lens m l fr) {p : P2} {k : Nat} (h : (p, k) ∈ fr) : PairOk m.length p ∧ ∃ w : List Nat, w.length = k ∧ 0 < k ∧ (∀ a ∈ w, a < l) ∧ Mrg m w p := lens_der _ (L.dr _ h)
theorem Lens.uniq (L : Lens m l fr) {p : P2} {k j : Nat} (h : (p, k) ∈ fr) (h2 : (p, j) ∈ fr) : k = j := by
  obtain ⟨a, ha, e1⟩ := List.getElem_of_mem h
  obtain ⟨b, hb, e2⟩ := List.getElem_of_mem h2
  have ka : (keysB fr)[a]'(by simpa [keysB] using ha) = p := by simp [keysB, e1]
  have kb : (keysB fr)[b]'(by simpa [keysB] using hb) = p := by simp [keysB, e2]
  have := nd_inj L.nd (by simpa [keysB] using ha) (by simpa [keysB] using hb) (ka.trans kb.symm)
  subst this
  rw [e1] at e2; cases e2; rfl
theorem Lens.least (L : Lens m l fr) (hm : Mach m l) {p : P2} (hp : PairOk m.length p) {w : List Nat} (hw : ∀ a ∈ w, a < l) (h : Mrg m w p) : ∃ k, k ≤ w.length ∧ (p, k) ∈ fr := by
  obtain ⟨k, hk, d⟩ := der_lens hm w p hp hw h
  obtain ⟨⟨p1, k1⟩, h1, e1, h2⟩ := Bfs.least (lt := fun a b : Nat => a ≤ b) (nx := lnx m l) (sd := lsd m l) (fun a b c h1 h2 => Nat.le_trans h1 h2) (fun p v v' c hv hc => by
    obtain ⟨q, hq, rfl⟩ := List.mem_map.mp hc
    exact ⟨(q, v + 1), List.mem_map.mpr ⟨q, hq, rfl⟩, rfl, .inr (by simp only; omega)⟩) L (p, k) d
  simp only at e1
  subst e1
  refine ⟨k1, ?_, h1⟩
  rcases h2 with h2 | h2
  · cases h2; exact hk
  · simp only at h2; omega
/-- no shorter word -/
theorem Lens.short (L : Lens m l fr) (hm : Mach m l) {p : P2} {k : Nat} (h : (p, k) ∈ fr) {w : List Nat} (hw : ∀ a ∈ w, a < l) (hM : Mrg m w p) : k ≤ w.length := by
  obtain ⟨j, hj, h2⟩ := L.least hm (L.word h).1 hw hM
  rw [L.uniq h h2]; exact hj
def lk (fr : List (P2 × Nat)) (p : P2) : Option Nat := (fr.find? fun c => decide (c.1 = p)).map (·.2)
theorem Lens.lk_iff (L : Lens m l fr) {p : P2} {k : Nat} : lk fr p = some k ↔ (p, k) ∈ fr := by
  unfold lk
  constructor
  · intro h
    obtain ⟨⟨q, j⟩, h1, h2⟩ := Option.map_eq_some_iff.mp h
    simp only at h2
    subst h2
    have := List.find?_some h1
    simp only [decide_eq_true_eq] at this
    subst this
    exact List.mem_of_find?_eq_some h1
  · intro h
    cases hf : fr.find? (fun c => decide (c.1 = p)) with
    | none =>
      have := List.find?_eq_none.mp hf (p, k) h
      simp at this
    | some c =>
      obtain ⟨q, j⟩ := c
      have h1 := List.find?_some hf
      simp only [decide_eq_true_eq] at h1
      subst h1
      rw [Option.map_some, L.uniq (List.mem_of_find?_eq_some hf) h]
/-- the letters that lead on -/
def ldL (m : List (List Nat)) (fr : List (P2 × Nat)) (p : P2) (k a : Nat) : Bool := match behN m p a with
  | none => decide (k = 1)
  | some q => decide (lk fr q = some (k - 1)) && decide (1 ≤ k)
theorem Lens.ok (L : Lens m l fr) (hm : Mach m l) {p : P2} {k : Nat} (h : (p, k) ∈ fr) {a : Nat} (ha : a < l) {w : List Nat} (hw : ∀ b ∈ w, b < l) (hl : (a :: w).length = k) (hM : Mrg m (a :: w) p) : ldL m fr p k a = true := by
  unfold ldL
  have hM' := hM
  rw [mrg_cons] at hM
  cases hb : behN m p a with
  | none =>
    have : k ≤ 1 := by
      have := L.short hm h (w := [a]) (by simpa using ha) (by rw [mrg_cons, hb]; trivial)
      simpa using this
    simp at hl
    simp; omega
  | some q =>
    rw [hb] at hM
    simp only at hM
    have hq := behN_ok hm (L.word h).1 ha hb
    obtain ⟨j, hj, h2⟩ := L.least hm hq hw hM
    obtain ⟨_, u, hu, hu0, hul, hum⟩ := L.word h2
    have : k ≤ (a :: u).length := L.short hm h (fun x hx => by
      rcases List.mem_cons.mp hx with rfl | hx
      · exact ha
      · exact hul x hx) (by rw [mrg_cons, hb]; exact hum)
    simp at hl this
    have : j = k - 1 := by omega
    subst this
    simp only [Bool.and_eq_true, decide_eq_true_eq]
    exact ⟨L.lk_iff.mpr h2, by omega⟩
theorem Lens.okx (L : Lens m l fr) {p : P2} {k a : Nat} (hk : ldL m fr p k a = true) : (k = 1 ∧ behN m p a = none) ∨ ∃ q, behN m p a = some q ∧ (q, k - 1) ∈ fr ∧ 2 ≤ k := by
  unfold ldL at hk
  cases hb : behN m p a with
  | none => rw [hb] at hk; exact .inl ⟨by simpa using hk, rfl⟩
  | some q =>
    rw [hb] at hk
    simp only [Bool.and_eq_true, decide_eq_true_eq] at hk
    have h1 := L.lk_iff.mp hk.1
    obtain ⟨_, w, _, h0, _⟩ := L.word h1
    exact .inr ⟨q, rfl, h1, by omega⟩
def firstL (m : List (List Nat)) (l : Nat) (fr : List (P2 × Nat)) (p : P2) (k : Nat) : Nat := ((List.range l).find? fun a => ldL m fr p k a).getD 0
theorem Lens.first (L : Lens m l fr) (hm : Mach m l) {p : P2} {k : Nat} (h : (p, k) ∈ fr) : firstL m l fr p k < l ∧ ldL m fr p k (firstL m l fr p k) = true ∧ ∀ a, a < firstL m l fr p k → ldL m fr p k a = false := by
  obtain ⟨_, w, hw, h0, hwl, hwm⟩ := L.word h
  cases w with
  | nil => simp at hw; omega
  | cons a w =>
    have hok := L.ok hm h (hwl a (by simp)) (fun b hb => hwl b (by simp [hb])) hw hwm
    unfold firstL
    cases hf : (List.range l).find? (fun a => ldL m fr p k a) with
    | none =>
      have := List.find?_eq_none.mp hf a (by simpa using hwl a (by simp))
      rw [hok] at this; exact absurd rfl this
    | some b =>
      rw [Option.getD_some]
      have h1 := List.find?_some hf
      refine ⟨by simpa using List.mem_of_find?_eq_some hf, h1, fun c hc => ?_⟩
      obtain ⟨_, as, bs, e, h3⟩ := List.find?_eq_some_iff_append.mp hf
      have hbm : b < l := by simpa using List.mem_of_find?_eq_some hf
      have : c ∈ as := by
        have hcl : c ∈ List.range l := by simp; omega
        rw [e] at hcl
        rcases List.mem_append.mp hcl with z | z
        · exact z
        · exfalso
          have hp := List.pairwise_lt_range (n := l)
          rw [e] at hp
          have hp2 := (List.pairwise_append.mp hp).2.1
          rcases List.mem_cons.mp z with z | z
          · omega
          · have := (List.pairwise_cons.mp hp2).1 c z; omega
      have := h3 c this
      simpa using this
/-- the first of the shortest words -/
def wdN (m : List (List Nat)) (l : Nat) (fr : List (P2 × Nat)) : Nat → P2 → List Nat
  | 0, _ => []
  | k + 1, p => firstL m l fr p (k + 1) :: match behN m p (firstL m l fr p (k + 1)) with
    | none => []
    | some q => wdN m l fr k q
def lexLe : List Nat → List Nat → Prop
  | [], _ => True
  | _ :: _, [] => False
  | a :: u, b :: v => a < b ∨ a = b ∧ lexLe u v
theorem lexLe_refl : ∀ u : List Nat, lexLe u u
  | [] => trivial
  | a :: u => .inr ⟨rfl, lexLe_refl u⟩
theorem lexLe_anti : ∀ {u v : List Nat}, u.length = v.length → lexLe u v → lexLe v u → u = v
  | [], [], _, _, _ => rfl
  | a :: u, b :: v, hl, h1, h2 => by
    rcases h1 with h1 | ⟨h1, h3⟩
    · rcases h2 with h2 | ⟨h2, _⟩ <;> omega
    · subst h1
      rcases h2 with h2 | ⟨_, h4⟩
      · omega
      · rw [lexLe_anti (by simpa using hl) h3 h4]
  | [], _ :: _, hl, _, _ => by simp at hl
  | _ :: _, [], hl, _, _ => by simp at hl
/-- the first shortest word that leads a pair to one room -/
structure Fst (m : List (List Nat)) (l : Nat) (p : P2) (w : List Nat) : Prop where
  ok : ∀ a ∈ w, a < l
  mrg : Mrg m w p
  least : ∀ u : List Nat, (∀ a ∈ u, a < l) → Mrg m u p → w.length < u.length ∨ w.length = u.length ∧ lexLe w u
theorem Fst.uniq {p : P2} {w v : List Nat} (h : Fst m l p w) (h2 : Fst m l p v) : w = v := by
  rcases h.least v h2.ok h2.mrg with a | ⟨a, b⟩
  · rcases h2.least w h.ok h.mrg with c | ⟨c, _⟩ <;> omega
  · rcases h2.least w h.ok h.mrg with c | ⟨_, d⟩
    · omega
    · exact lexLe_anti a b d
theorem Lens.wd (L : Lens m l fr) (hm : Mach m l) : ∀ (k : Nat) (p : P2), (p, k) ∈ fr → (wdN m l fr k p).length = k ∧ Fst m l p (wdN m l fr k p)
  | 0, p, h => by obtain ⟨_, _, _, h0, _⟩ := L.word h; omega
  | k + 1, p, h => by
    obtain ⟨h1, h2, h3⟩ := L.first hm h
    have hp := (L.word h).1
    unfold wdN
    generalize hA : firstL m l fr p (k + 1) = a at h1 h2 h3
    have low : ∀ (b : Nat) (u : List Nat), (∀ x ∈ b :: u, x < l) → Mrg m (b :: u) p → (b :: u).length = k + 1 → a ≤ b := fun b u hu hM hl => by
      by_cases hab : a ≤ b
      · exact hab
      · have := L.ok hm h (hu b (by simp)) (fun x hx => hu x (by simp [hx])) hl hM
        rw [h3 b (by omega)] at this; cases this
    rcases L.okx h2 with ⟨hk, hb⟩ | ⟨q, hb, hq, hk⟩
    · rw [hb]
      simp only
      have hk0 : k = 0 := by omega
      subst hk0
      refine ⟨rfl, by simpa using h1, by rw [mrg_cons, hb]; trivial, fun u hu hM => ?_⟩
      cases u with
      | nil => exact absurd hM (mrg_nil hp)
      | cons b u =>
        by_cases hu0 : u = []
        · subst hu0
          right
          refine ⟨rfl, ?_⟩
          have := low b [] hu hM rfl
          rcases Nat.lt_or_eq_of_le this with z | z
          · exact .inl z
          · exact .inr ⟨z, trivial⟩
        · left
          cases u with
          | nil => exact absurd rfl hu0
          | cons c u => simp
    · have e : k + 1 - 1 = k := by omega
      rw [e] at hq
      obtain ⟨h4, h5⟩ := L.wd hm k q hq
      rw [hb]
      simp only
      refine ⟨by simp [h4], fun x hx => ?_, by rw [mrg_cons, hb]; exact h5.mrg, fun u hu hM => ?_⟩
      · rcases List.mem_cons.mp hx with rfl | hx
        · exact h1
        · exact h5.ok x hx
      · cases u with
        | nil => exact absurd hM (mrg_nil hp)
        | cons b u =>
          have hs := L.short hm h hu hM
          rcases Nat.lt_or_eq_of_le hs with z | z
          · left; simp [h4] at z ⊢; omega
          · right
            refine ⟨by simp [h4] at z ⊢; omega, ?_⟩
            have := low b u hu hM z.symm
            rcases Nat.lt_or_eq_of_le this with z2 | z2
            · exact .inl z2
            · subst z2
              refine .inr ⟨rfl, ?_⟩
              rw [mrg_cons, hb] at hM
              rcases h5.least u (fun x hx => hu x (by simp [hx])) hM with z3 | ⟨_, z3⟩
              · rw [h4] at z3; simp at z; omega
              · exact z3
end
def behL (m : List (List Nat)) (p : P2) (a : Nat) : P2 := ordP (stp m p.1 a) (stp m p.2 a)
theorem behL_none {m : List (List Nat)} {p : P2} {a : Nat} : behN m p a = none ↔ (behL m p a).1 = (behL m p a).2 := by
  unfold behN behL ordP
  simp only
  split
  · rename_i h; rw [h]; simp
  · rename_i h; simp; omega
theorem behL_some {m : List (List Nat)} {p : P2} {a : Nat} (h : behN m p a ≠ none) : behN m p a = some (behL m p a) ∧ (behL m p a).1 < (behL m p a).2 := by
  unfold behN behL ordP at *
  split at h
  · exact absurd rfl h
  · rename_i hne; rw [if_neg hne]; exact ⟨rfl, by simp only; omega⟩
theorem wc_fltL {α : Type} (emb h : α → D) (p : α → Bool) (ys : List α) {t : Tg} {c : B} {f : E} {lv : List (Nat × Ob)} {ρ : Env} {M : Mem} {Q : List D → Mem → Prop} (hc : chk lv M)
    (step : ∀ y ∈ ys, WEnv (t.put (emb y) ρ) fun ρ' => c ρ' M = some (p y, M) ∧ (p y = true → WE f ρ' M (kIs (h y) M))) (done : Q ((ys.filter p).map h) M) : WC t c f lv ρ (ys.map emb) M Q := by
  refine wc_inv (fun i acc M' => acc = ((ys.take i).filter p).map h ∧ M' = M) ⟨by simp, rfl⟩ (fun _ _ _ _ j => by rw [j.2]; exact hc) (fun i x acc M' hx j => ?_) (fun acc M' j => ?_)
  · obtain ⟨rfl, rfl⟩ := j
    rw [List.getElem?_map] at hx
    obtain ⟨y, e1, rfl⟩ := Option.map_eq_some_iff.mp hx
    obtain ⟨hi, rfl⟩ := List.getElem?_eq_some_iff.mp e1
    obtain ⟨ρ', e2, e4, h3⟩ := step ys[i] (List.getElem_mem hi)
    refine ⟨ρ', e2, _, M', e4, ?_⟩
    cases hp : p ys[i] with
    | true =>
      obtain ⟨r, M', e3, rfl, rfl⟩ := h3 hp
      refine ⟨_, _, e3, ?_, rfl⟩
      rw [List.take_add_one, List.filter_append, List.map_append]
      simp [hi, hp]
    | false =>
      refine ⟨?_, rfl⟩
      rw [List.take_add_one, List.filter_append, List.map_append]
      simp [hi, hp]
  · obtain ⟨rfl, rfl⟩ := j
    rw [List.length_map, List.take_length]
    exact done
theorem zip_nn : ∀ (u v : List Nat), zipD (nats u) (nats v) = (u.zip v).map fun p => D.par [.int ((p.1 : Nat) : Int), .int ((p.2 : Nat) : Int)]
  | [], v => by simp [nats, zipD]
  | a :: u, [] => by simp [nats, zipD]
  | a :: u, b :: v => by
    have := zip_nn u v
    simp only [nats] at this
    simp [nats, zipD, this]
theorem zip_rows {m : List (List Nat)} {l : Nat} (hm : Mach m l) {x y : Nat} (h1 : x < m.length) (h2 : y < m.length) (M : Mem) : zipOf (.v (tN m[x])) (.v (tN m[y])) M = some ⟨(List.range l).map fun a => D.par [.int ((stp m x a : Nat) : Int), .int ((stp m y a : Nat) : Int)], []⟩ := by
  have hr1 := hm.row h1
  have hr2 := hm.row h2
  simp only [zipOf, tN]
  congr 2
  rw [zip_nn]
  apply List.ext_getElem
  · simp; omega
  · intro j h1' h2'
    have hj : j < l := by simpa using h2'
    simp only [List.getElem_map, List.getElem_zip, List.getElem_range, stp_eq hm h1 hj, stp_eq hm h2 hj]
theorem enum_rg (f : Nat → D) (l : Nat) : enumD 0 ((List.range l).map f) = (List.range l).map fun a => D.par [.int ((a : Nat) : Int), f a] := by
  apply List.ext_getElem?
  intro i
  rw [List.getElem?_map]
  by_cases hi : i < l
  · have hi' : i < (enumD 0 ((List.range l).map f)).length := by rw [enumD_len]; simpa using hi
    obtain ⟨x, e1, e2⟩ := enumD_get (List.getElem?_eq_getElem hi')
    rw [List.getElem?_eq_getElem hi', e2, List.getElem?_range hi]
    rw [List.getElem?_map, List.getElem?_range hi] at e1
    simp at e1
    simp [e1]
  · rw [List.getElem?_eq_none (by rw [enumD_len]; simp; omega), List.getElem?_eq_none (by simp; omega)]; rfl
theorem enum_rf {n l : Nat} {f : Nat → D} {M : Mem} (h : M[n]? = some (.lst ((List.range l).map f))) : enumOf (.v (.ref n)) M = some ⟨(List.range l).map fun a => D.par [.int ((a : Nat) : Int), f a], [(n, .lst ((List.range l).map f))]⟩ := by
  simp only [enumOf, lsrc, h, Option.bind_some, enum_rg]
theorem eq_nilN {q : Nat} {w : List Nat} {M : Mem} (h : M[q]? = some (.lst (nats w))) : eqF (.v (.ref q)) (.o (.lst [])) M = some (.v (.bl (decide (w = []))), M) := by
  have ho : okD 64 (.fl (nats w)) = true := by simp only [okD]; exact okL_nats _ _
  have ho2 : okD 64 (.fl []) = true := by simp [okD, okL]
  simp only [eqF, form_ref h, form_ol, Option.bind_some, if_pos (And.intro ho ho2)]
  cases w <;> simp [nats, D.eqb, eqbL]
theorem isi_tt (xs : List D) (M : Mem) : isiF .tuple (.v (.tup xs)) M = some (.v (.bl true), M) := by simp [isiF, tyOf, isiB]
theorem isi_ttN (w : List Nat) (M : Mem) : isiF .tuple (.v (tN w)) M = some (.v (.bl true), M) := by simp [isiF, tN, tyOf, isiB]
theorem ix_rf {q : Nat} {xs : List D} {i : Nat} {d : D} {M : Mem} (hq : M[q]? = some (.lst xs)) (h : xs[i]? = some d) : ixF (.v (.ref q)) (.v (.int (i : Int))) M = some (.v d, M) := by
  have e := ix_tup (ds := xs) h M
  simp only [ixF, seqOf, hq] at e ⊢
  exact e
noncomputable def words_in_C1 (ρ : Env) (m : Mem) : Option (Bool × Mem) := (bOf (eBin neF (eVar 1) (eC (.str "")))) ρ m
theorem w_words_in_C1 {ρ : Env} {M : Mem} {Q : Bool → Mem → Prop} : WB words_in_C1 ρ M Q ↔ WB (bOf (eBin neF (eVar 1) (eC (.str "")))) ρ M Q := Iff.rfl
noncomputable def words_in_E1 (ρ : Env) (m : Mem) : Option (Out × Mem) := (eVar 1) ρ m
theorem w_words_in_E1 {ρ : Env} {M : Mem} {Q : PO2} : WE words_in_E1 ρ M Q ↔ WE (eVar 1) ρ M Q := Iff.rfl
noncomputable def m_words_in : Fn := fnD 1 2
    (sRet (eComp (iE (eMt1 "str" splF (eVar 0) (eC (.str " ")))) [1] (.nm 1) words_in_C1 words_in_E1))
noncomputable def row_fault_E1 (ρ : Env) (m : Mem) : Option (Out × Mem) := (eBin ixF (eVar 3) (eC (.int 0))) ρ m
theorem w_row_fault_E1 {ρ : Env} {M : Mem} {Q : PO2} : WE row_fault_E1 ρ M Q ↔ WE (eBin ixF (eVar 3) (eC (.int 0))) ρ M Q := Iff.rfl
noncomputable def row_fault_E2 (ρ : Env) (m : Mem) : Option (Out × Mem) := (eCall m_is_name (aCons (eVar 4) aNil)) ρ m
theorem w_row_fault_E2 {ρ : Env} {M : Mem} {Q : PO2} : WE row_fault_E2 ρ M Q ↔ WE (eCall m_is_name (aCons (eVar 4) aNil)) ρ M Q := Iff.rfl
noncomputable def m_row_fault : Fn := fnD 2 5
    (sSeq (sIf (bNot (bOf (eUn allF (eComp (iE (eVar 0)) [4] (.nm 4) bYes row_fault_E2)))) (sRet (eC (.str "name"))) sNil)
    (sSeq (sSet 2 (eBin subF (eUn lenF (eVar 0)) (eC (.int 1))))
    (sSeq (sIf (bOr (bNot (bOf (eChain leF leF (eC (.int 1)) (eVar 2) (eC (.int 6))))) (bAnd (bOf (eBin gtF (eUn lenF (eVar 1)) (eC (.int 0)))) (bOf (eBin neF (eVar 2) (eBin subF (eUn lenF (eBin ixF (eVar 1) (eC (.int 0)))) (eC (.int 1))))))) (sRet (eC (.str "count"))) sNil)
    (sSeq (sIf (bOf (eBin (inF false) (eBin ixF (eVar 0) (eC (.int 0))) (eComp (iE (eVar 1)) [3] (.nm 3) bYes row_fault_E1))) (sRet (eC (.str "twice"))) sNil)
    (sSeq (sIf (bOf (eBin geF (eUn lenF (eVar 1)) (eC (.int 26)))) (sRet (eC (.str "many"))) sNil)
    (sRet (eC .non)))))))
noncomputable def first_unknown_E1 (ρ : Env) (m : Mem) : Option (Out × Mem) := (eBin (inF false) (eVar 4) (eVar 1)) ρ m
theorem w_first_unknown_E1 {ρ : Env} {M : Mem} {Q : PO2} : WE first_unknown_E1 ρ M Q ↔ WE (eBin (inF false) (eVar 4) (eVar 1)) ρ M Q := Iff.rfl
noncomputable def first_unknown_F1 (ρ : Env) (m : Mem) : Option R := (sIf (bNot (bOf (eUn allF (eComp (iE (eVar 3)) [4] (.nm 4) bYes first_unknown_E1)))) (sRet (eVar 2)) sNil) ρ m
theorem w_first_unknown_F1 {ρ : Env} {M : Mem} {Q : R → Prop} : WS first_unknown_F1 ρ M Q ↔ WS (sIf (bNot (bOf (eUn allF (eComp (iE (eVar 3)) [4] (.nm 4) bYes first_unknown_E1)))) (sRet (eVar 2)) sNil) ρ M Q := Iff.rfl
noncomputable def first_unknown_E2 (ρ : Env) (m : Mem) : Option (Out × Mem) := (eBin ixF (eVar 3) (eC (.int 0))) ρ m
theorem w_first_unknown_E2 {ρ : Env} {M : Mem} {Q : PO2} : WE first_unknown_E2 ρ M Q ↔ WE (eBin ixF (eVar 3) (eC (.int 0))) ρ M Q := Iff.rfl
noncomputable def m_first_unknown : Fn := fnD 1 5
    (sSeq (sSet 1 (eComp (iE (eVar 0)) [3] (.nm 3) bYes first_unknown_E2))
    (sSeq (sFor (iEnumE (eVar 0)) (gT (.tp [2, 3])) first_unknown_F1)
    (sRet (eC .non))))
noncomputable def machine_of_E1 (ρ : Env) (m : Mem) : Option (Out × Mem) := (eTm1 idxTF (eVar 1) (eVar 3)) ρ m
theorem w_machine_of_E1 {ρ : Env} {M : Mem} {Q : PO2} : WE machine_of_E1 ρ M Q ↔ WE (eTm1 idxTF (eVar 1) (eVar 3)) ρ M Q := Iff.rfl
noncomputable def machine_of_E2 (ρ : Env) (m : Mem) : Option (Out × Mem) := (eUn tupF (eComp (iE (eSl (eVar 2) (oSome (eC (.int 1))) oNone)) [3] (.nm 3) bYes machine_of_E1)) ρ m
theorem w_machine_of_E2 {ρ : Env} {M : Mem} {Q : PO2} : WE machine_of_E2 ρ M Q ↔ WE (eUn tupF (eComp (iE (eSl (eVar 2) (oSome (eC (.int 1))) oNone)) [3] (.nm 3) bYes machine_of_E1)) ρ M Q := Iff.rfl
noncomputable def machine_of_E3 (ρ : Env) (m : Mem) : Option (Out × Mem) := (eBin ixF (eVar 2) (eC (.int 0))) ρ m
theorem w_machine_of_E3 {ρ : Env} {M : Mem} {Q : PO2} : WE machine_of_E3 ρ M Q ↔ WE (eBin ixF (eVar 2) (eC (.int 0))) ρ M Q := Iff.rfl
noncomputable def m_machine_of : Fn := fnD 1 4
    (sSeq (sSet 1 (eUn tupF (eComp (iE (eVar 0)) [2] (.nm 2) bYes machine_of_E3)))
    (sRet (eTup (aCons (eUn tupF (eComp (iE (eVar 0)) [2] (.nm 2) bYes machine_of_E2)) (aCons (eVar 1) aNil)))))
/-! ### words of rows -/
def Asc (cs : List Nat) : Prop := ∀ c ∈ cs, c < 1000
theorem asc_ok {cs : List Nat} (h : Asc cs) : PyData.strOk (txtS cs) = true := by
  unfold PyData.strOk
  rw [← Array.all_toList, txt_cps, List.all_eq_true]
  intro c hc
  have := h c hc
  simp; omega
theorem okD_txt {cs : List Nat} (h : Asc cs) (n : Nat) : okD n (.str (txtS cs)) = true := by rw [okD]; exact asc_ok h
theorem eqb_txt (a b : List Nat) : (D.str (txtS a)).eqb (.str (txtS b)) = decide (a = b) := by
  simp only [D.eqb]
  rw [Bool.eq_iff_iff, decide_eq_true_iff, decide_eq_true_iff]
  exact ⟨txt_inj, fun h => by rw [h]⟩
theorem ne_txt {a b : List Nat} (ha : Asc a) (hb : Asc b) (M : Mem) : neF (.v (.str (txtS a))) (.v (.str (txtS b))) M = some (.v (.bl (!decide (a = b))), M) := by
  simp only [neF, form, Option.bind_some, okD_txt ha, okD_txt hb, and_self, if_true, eqb_txt]
theorem eq_txt {a b : List Nat} (ha : Asc a) (hb : Asc b) (M : Mem) : eqF (.v (.str (txtS a))) (.v (.str (txtS b))) M = some (.v (.bl (decide (a = b))), M) := by
  simp only [eqF, form, Option.bind_some, okD_txt ha, okD_txt hb, and_self, if_true, eqb_txt]
def wD (ws : List (List Nat)) : List D := ws.map fun w => D.str (txtS w)
theorem wD_len (ws : List (List Nat)) : (wD ws).length = ws.length := by simp [wD]
theorem lo_wD (n : Nat) (ws : List (List Nat)) : loL n (wD ws) := by
  rw [loL_iff]; intro d hd; obtain ⟨w, _, rfl⟩ := List.mem_map.mp hd; simp
theorem in_wD {x : Out} {ws : List (List Nat)} {M : Mem} (hx : seqOf x M = some (wD ws)) (hns : ∀ z, x ≠ .v (.str z)) (w : List Nat) : inF false (.v (.str (txtS w))) x M = some (.v (.bl (decide (w ∈ ws))), M) := by
  have ha : (wD ws).all flatD = true := by rw [List.all_eq_true]; intro d hd; obtain ⟨v, _, rfl⟩ := List.mem_map.mp hd; rfl
  have hany : ((wD ws).any fun d => d.eqb (.str (txtS w))) = decide (w ∈ ws) := by
    rw [Bool.eq_iff_iff, List.any_eq_true, decide_eq_true_iff]
    constructor
    · rintro ⟨d, hd, e⟩
      obtain ⟨v, hv, rfl⟩ := List.mem_map.mp hd
      rw [eqb_txt, decide_eq_true_iff] at e
      exact e ▸ hv
    · intro h
      exact ⟨_, List.mem_map.mpr ⟨w, h, rfl⟩, by rw [eqb_txt]; simp⟩
  unfold inF
  split
  · rename_i z; exact absurd rfl (hns z)
  · simp only [form, Option.bind_some, hx, flatD, ha, and_self, if_true, hany, Bool.false_eq_true, if_false]
def wordsL (a : List Nat) : List (List Nat) := (splitL 32 a).filter fun w => decide (w ≠ [])
theorem splitL_asc {c : Nat} : ∀ {a : List Nat}, Asc a → ∀ p ∈ splitL c a, Asc p := fun {a} h p hp x hx => by
  have : x ∈ joinT [c] (splitL c a) := by
    cases hs : splitL c a with
    | nil => exact absurd hs (splitL_ne c a)
    | cons q qs =>
      rw [hs] at hp
      show x ∈ q ++ qs.flatMap fun r => [c] ++ r
      rcases List.mem_cons.mp hp with rfl | hp
      · exact List.mem_append_left _ hx
      · exact List.mem_append_right _ (List.mem_flatMap.mpr ⟨p, hp, List.mem_append_right _ hx⟩)
  rw [splitL_join] at this
  exact h x this
theorem words_in_w {a : List Nat} (hl : a.length ≤ 90000) (ha : Asc a) (M : Mem) : m_words_in [.str (txtS a)] M = some (.o (.lst (wD (wordsL a))), M) := by
  refine wo_eqO ?_
  unfold m_words_in
  have e1 : (" " : Str) = txtS [32] := by decide
  have e2 : ("" : Str) = txtS [] := by decide
  simp only [wp, wx, wf, Nat.reduceSub, isT_str, e1, txt_splF hl, src_ol]
  refine wc_flt (fun p => D.str (txtS p)) (fun p => D.str (txtS p)) (fun p => decide (p ≠ [])) (splitL 32 a) (fun p hp => ?_) ?_
  · refine ⟨_, rfl, wb_eq ?_, fun _ => ?_⟩
    · simp only [wp, wx, w_words_in_C1, e2, ne_txt (splitL_asc ha p hp) (show Asc [] from fun c hc => by simp at hc)]
      exact ⟨by simp, trivial⟩
    · simp only [wp, wx, w_words_in_E1]
      exact ⟨rfl, rfl⟩
  · simp only [wp, wx]
    show kFn M _ (.rt (.o (.lst (wD (wordsL a)))) M)
    rw [kFn_o (b := .lst (wD (wordsL a))) (show loL _ _ from lo_wD _ _)]
    exact ⟨rfl, rfl⟩
/-- rows of words in memory -/
structure RowsAt (M : Mem) (q : Nat) (rows : List (List (List Nat))) : Prop where
  ex : ∃ ps : List Nat, M[q]? = some (.lst (ps.map D.ref)) ∧ ps.length = rows.length ∧ ∀ i (h1 : i < ps.length) (h2 : i < rows.length), M[ps[i]]? = some (.lst (wD rows[i]))
theorem RowsAt.app {M : Mem} {q : Nat} {rows : List (List (List Nat))} (h : RowsAt M q rows) (e : Mem) : RowsAt (M ++ e) q rows := by
  obtain ⟨ps, h1, h2, h3⟩ := h.ex
  exact ⟨ps, get_app h1, h2, fun i a b => get_app (h3 i a b)⟩
/-- the first word of a row in memory -/
def hdD (M : Mem) : D → D
  | .ref p => match M[p]? with
    | some (.lst (x :: _)) => x
    | _ => .non
  | _ => .non
theorem RowsAt.heads {M : Mem} {rows : List (List (List Nat))} {ps : List Nat} (h2 : ps.length = rows.length) (h3 : ∀ i (h1 : i < ps.length) (h2 : i < rows.length), M[ps[i]]? = some (.lst (wD rows[i]))) (hn : ∀ r ∈ rows, r ≠ []) : (ps.map D.ref).map (hdD M) = wD (rows.map fun r => r.headD []) ∧ ∀ d ∈ ps.map D.ref, ixF (.v d) (.v (.int 0)) M = some (.v (hdD M d), M) := by
  have one : ∀ i (h1 : i < ps.length) (h2 : i < rows.length), hdD M (.ref ps[i]) = .str (txtS (rows[i].headD [])) ∧ ixF (.v (.ref ps[i])) (.v (.int 0)) M = some (.v (.str (txtS (rows[i].headD []))), M) := fun i a b => by
    have e := h3 i a b
    have hne := hn rows[i] (List.getElem_mem b)
    cases hr : rows[i] with
    | nil => exact absurd hr hne
    | cons w ws =>
      rw [hr] at e
      refine ⟨by simp only [hdD, e, wD, List.map_cons]; rfl, ?_⟩
      simp [ixF, seqOf, e, wD, atI, ixN]
  refine ⟨List.ext_getElem (by simp [wD, h2]) fun i a b => ?_, fun d hd => ?_⟩
  · have a' : i < ps.length := by simpa using a
    have b' : i < rows.length := by omega
    have := (one i a' b').1
    simp [wD, this]
  · obtain ⟨p, hp, rfl⟩ := List.mem_map.mp hd
    obtain ⟨i, hi, rfl⟩ := List.getElem_of_mem hp
    have := one i hi (by omega)
    rw [this.1]; exact this.2
def faultN (ws : List (List Nat)) (ahead : List (List (List Nat))) : Option Str :=
  if ws.all nameB = false then some "name"
  else if ¬ (1 ≤ ws.length - 1 ∧ ws.length - 1 ≤ 6) ∨ (0 < ahead.length ∧ ws.length ≠ (ahead.headD []).length) then some "count"
  else if ws.headD [] ∈ ahead.map (fun r => r.headD []) then some "twice"
  else if 26 ≤ ahead.length then some "many"
  else none
def oD : Option Str → D
  | none => .non
  | some s => .str s
theorem row_fault_w {ws : List (List Nat)} {ahead : List (List (List Nat))} (h0 : 0 < ws.length) (hl : ws.length ≤ 9000) (hwl : ∀ w ∈ ws, w.length ≤ 9000) (hal : ahead.length ≤ 9000) (han : ∀ r ∈ ahead, r ≠ [] ∧ r.length ≤ 9000) {M : Mem} {qw qa : Nat} (hw : M[qw]? = some (.lst (wD ws))) (ha : RowsAt M qa ahead) : m_row_fault [.ref qw, .ref qa] M = some (.v (oD (faultN ws ahead)), M) := by
  refine wo_eq ?_
  unfold m_row_fault
  obtain ⟨ps, a1, a2, a3⟩ := ha.ex
  have lo : ∀ s : Str, (D.str s).lo M.length := by simp
  have lenw : ∀ M', M'[qw]? = some (.lst (wD ws)) → lenF (.v (.ref qw)) M' = some (.v (.int (ws.length : Int)), M') := fun M' h => by rw [len_ref h, wD_len]
  have lena : lenF (.v (.ref qa)) M = some (.v (.int (ahead.length : Int)), M) := by rw [len_ref a1]; simp [a2]
  simp only [wp, wx, wf, Nat.reduceSub, src_ref hw]
  refine wc_mapL3 (fun w => D.str (txtS w)) (fun w => .bl (nameB w)) ws (chk_one hw) (fun w hw2 => ?_) ?_
  · simp only [wp, wx, w_row_fault_E2, isname_eq (show kn M (.str (txtS w)) by simp) (fun z e => by injection e with e; rw [← e, txt_len]; have := hwl w hw2; omega), nmB_txt]
    exact ⟨rfl, rfl⟩
  simp only [wp, wx, all_map]
  cases hall : ws.all nameB with
  | false =>
    simp only [wp, wx]
    rw [kFn_v (lo _)]
    exact ⟨by simp [faultN, hall, oD], rfl⟩
  | true =>
    simp only [wp, wx, lenw M hw, sub_int, leF, cmp_int]
    have bad : (¬ (1 ≤ ws.length - 1 ∧ ws.length - 1 ≤ 6) ∨ (0 < ahead.length ∧ ws.length ≠ (ahead.headD []).length)) → kFn M (kIs (oD (faultN ws ahead)) M) (.rt (.v (.str "count")) M) := fun hc => by
      rw [kFn_v (lo _)]
      have hf : ¬ (ws.all nameB = false) := by rw [hall]; simp
      exact ⟨by rw [faultN, if_neg hf, if_pos hc]; rfl, rfl⟩
    have rest : ¬ (¬ (1 ≤ ws.length - 1 ∧ ws.length - 1 ≤ 6) ∨ (0 < ahead.length ∧ ws.length ≠ (ahead.headD []).length)) → WS (sSeq (sIf (bOf (eBin (inF false) (eBin ixF (eVar 0) (eC (.int 0))) (eComp (iE (eVar 1)) [3] (.nm 3) bYes row_fault_E1))) (sRet (eC (.str "twice"))) sNil) (sSeq (sIf (bOf (eBin geF (eUn lenF (eVar 1)) (eC (.int 26)))) (sRet (eC (.str "many"))) sNil) (sRet (eC .non)))) [some (.ref qw), some (.ref qa), some (.int ((ws.length : Int) - 1)), none, none] M (kFn M (kIs (oD (faultN ws ahead)) M)) := fun hc => by
      have hf : ¬ (ws.all nameB = false) := by rw [hall]; simp
      have ix0 : ixF (.v (.ref qw)) (.v (.int 0)) M = some (.v (.str (txtS (ws.headD []))), M) := by
        cases ws with
        | nil => simp at h0
        | cons w ws => simp [ixF, seqOf, hw, wD, atI, ixN]
      simp only [wp, wx, ix0, src_ref a1]
      obtain ⟨hd1, hd2⟩ := RowsAt.heads a2 a3 fun r hr => (han r hr).1
      refine wc_invL (hdD M) (ps.map D.ref) (chk_one a1) (fun d hd => ?_) ?_
      · simp only [wp, wx, w_row_fault_E1, hd2 d hd]
        exact ⟨rfl, rfl⟩
      rw [hd1]
      have hin := in_wD (x := .o (.lst (wD (ahead.map fun r => r.headD [])))) (M := M) rfl (by intro z e; cases e) (ws.headD [])
      simp only [wp, wx, hin]
      by_cases ht : ws.headD [] ∈ ahead.map fun r => r.headD []
      · simp only [ht, decide_true, wp, wx]
        rw [kFn_v (lo _)]
        exact ⟨by rw [faultN, if_neg hf, if_neg hc, if_pos ht]; rfl, rfl⟩
      · simp only [ht, decide_false, wp, wx, lena, geF, cmp_int]
        by_cases hm : 26 ≤ ahead.length
        · have hm' : decide ((26 : Int) ≤ (ahead.length : Int)) = true := decide_eq_true (by omega)
          simp only [hm', wp, wx]
          rw [kFn_v (lo _)]
          exact ⟨by rw [faultN, if_neg hf, if_neg hc, if_neg ht, if_pos hm]; rfl, rfl⟩
        · have hm' : decide ((26 : Int) ≤ (ahead.length : Int)) = false := decide_eq_false (by omega)
          simp only [hm', wp, wx]
          rw [kFn_v (by simp)]
          exact ⟨by rw [faultN, if_neg hf, if_neg hc, if_neg ht, if_neg hm]; rfl, rfl⟩
    by_cases c1 : 1 ≤ ws.length - 1
    · have c1' : decide ((1 : Int) ≤ (ws.length : Int) - 1) = true := decide_eq_true (by omega)
      simp only [c1', wp, wx, leF, cmp_int]
      by_cases c2 : ws.length - 1 ≤ 6
      · have c2' : decide ((ws.length : Int) - 1 ≤ 6) = true := decide_eq_true (by omega)
        simp only [c2', wp, wx, lena, gtF, cmp_int]
        by_cases c3 : 0 < ahead.length
        · have c3' : decide ((0 : Int) < (ahead.length : Int)) = true := decide_eq_true (by omega)
          have hps : 0 < ps.length := by omega
          have ixa : ixF (.v (.ref qa)) (.v (.int 0)) M = some (.v (.ref ps[0]), M) := by
            simp only [ixF, seqOf, a1, Option.bind_some]
            cases ps with
            | nil => simp at hps
            | cons p ps => simp [atI, ixN]
          have hl0 : lenF (.v (.ref ps[0])) M = some (.v (.int ((ahead.headD []).length : Int)), M) := by
            rw [len_ref (a3 0 hps c3), wD_len]
            cases ahead with
            | nil => simp at c3
            | cons a ahead => rfl
          simp only [c3', wp, wx, ixa, hl0, sub_int, ne_int]
          by_cases c4 : ws.length = (ahead.headD []).length
          · have c4' : decide ((ws.length : Int) - 1 = ((ahead.headD []).length : Int) - 1) = true := decide_eq_true (by omega)
            simp only [c4', Bool.not_true, wp, wx]
            simp only [wp, wx] at rest
            exact rest (by omega)
          · have c4' : decide ((ws.length : Int) - 1 = ((ahead.headD []).length : Int) - 1) = false := decide_eq_false (by omega)
            simp only [c4', Bool.not_false, wp, wx]
            exact bad (.inr ⟨c3, c4⟩)
        · have c3' : decide ((0 : Int) < (ahead.length : Int)) = false := decide_eq_false (by omega)
          simp only [c3', wp, wx]
          simp only [wp, wx] at rest
          exact rest (by omega)
      · have c2' : decide ((ws.length : Int) - 1 ≤ 6) = false := decide_eq_false (by omega)
        simp only [c2', wp, wx]
        exact bad (by omega)
    · have c1' : decide ((1 : Int) ≤ (ws.length : Int) - 1) = false := decide_eq_false (by omega)
      simp only [c1', wp, wx]
      exact bad (by omega)
def headsN (rows : List (List (List Nat))) : List (List Nat) := rows.map fun r => r.headD []
def unkN (rows : List (List (List Nat))) : Option Nat := rows.findIdx? fun r => !(r.all fun w => decide (w ∈ headsN rows))
def iD0 : Option Nat → D
  | none => .non
  | some i => .int (i : Int)
theorem enum_refs {M : Mem} {q : Nat} {ps : List Nat} (h : M[q]? = some (.lst (ps.map D.ref))) : enumOf (.v (.ref q)) M = some ⟨(ps.zipIdx).map fun p => D.par [.int ((p.2 : Nat) : Int), .ref p.1], [(q, .lst (ps.map D.ref))]⟩ := by
  have : ∀ (ps : List Nat) (i : Nat), enumD i (ps.map D.ref) = (ps.zipIdx i).map fun p => D.par [.int ((p.2 : Nat) : Int), .ref p.1] := by
    intro ps
    induction ps with
    | nil => intro i; simp [enumD]
    | cons a ps ih => intro i; simp [enumD, ih]
  simp only [enumOf, lsrc, h, Option.bind_some, this]
theorem findIdx_take {α : Type} (p : α → Bool) : ∀ (l : List α) (i : Nat) (h : i < l.length), (∀ j (hj : j < i), p (l[j]'(by omega)) = false) → p l[i] = true → l.findIdx? p = some i
  | [], i, h, _, _ => by simp at h
  | a :: l, 0, h, _, hp => by simp at hp; simp [List.findIdx?_cons, hp]
  | a :: l, i + 1, h, hn, hp => by
    have h0 := hn 0 (by omega)
    simp at h0
    have := findIdx_take p l i (by simpa using h) (fun j hj => by have := hn (j + 1) (by omega); simpa using this) (by simpa using hp)
    simp [List.findIdx?_cons, h0, this]
theorem first_unknown_w {rows : List (List (List Nat))} (hn : ∀ r ∈ rows, r ≠ []) {M : Mem} {q : Nat} (ha : RowsAt M q rows) : m_first_unknown [.ref q] M = some (.v (iD0 (unkN rows)), M) := by
  refine wo_eq ?_
  unfold m_first_unknown
  obtain ⟨ps, a1, a2, a3⟩ := ha.ex
  obtain ⟨hd1, hd2⟩ := RowsAt.heads a2 a3 hn
  simp only [wp, wx, wf, Nat.reduceSub, src_ref a1]
  refine wc_invL (hdD M) (ps.map D.ref) (chk_one a1) (fun d hd => ?_) ?_
  · simp only [wp, wx, w_first_unknown_E2, hd2 d hd]
    exact ⟨rfl, rfl⟩
  rw [hd1]
  have a1' : (M ++ [Ob.lst (wD (headsN rows))])[q]? = some (.lst (ps.map D.ref)) := get_app a1
  have hg : (M ++ [Ob.lst (wD (headsN rows))])[M.length]? = some (.lst (wD (headsN rows))) := get_end rfl
  rw [show (rows.map fun r => r.headD []) = headsN rows from rfl]
  simp only [wp, wx, enum_refs a1']
  refine wl_inv (fun i ρ M' => M' = M ++ [Ob.lst (wD (headsN rows))] ∧ (∀ j (hj : j < i) (hr : j < rows.length), (rows[j].all fun w => decide (w ∈ headsN rows)) = true) ∧ ∃ x2 x3 x4, ρ = [some (.ref q), some (.ref M.length), x2, x3, x4]) ⟨rfl, fun j hj => by omega, _, _, _, rfl⟩ (fun i ρ M' _ j => by obtain ⟨rfl, _⟩ := j; exact chk_one a1') (fun i x ρ M' hx j => ?_) (fun ρ M' j => ?_)
  · obtain ⟨rfl, hall, x2, x3, x4, rfl⟩ := j
    rw [List.getElem?_map] at hx
    obtain ⟨pr, e1, rfl⟩ := Option.map_eq_some_iff.mp hx
    obtain ⟨hi, rfl⟩ := List.getElem?_eq_some_iff.mp e1
    have hi' : i < ps.length := by simpa using hi
    have hir : i < rows.length := by omega
    have ez : (ps.zipIdx)[i] = (ps[i], i) := by simp
    rw [ez]
    have hrow : (M ++ [Ob.lst (wD (headsN rows))])[ps[i]]? = some (.lst (wD rows[i])) := get_app (a3 i hi' hir)
    simp only [wp, wx, w_first_unknown_F1, src_ref hrow]
    refine wc_mapL3 (fun w => D.str (txtS w)) (fun w => .bl (decide (w ∈ headsN rows))) rows[i] (chk_one hrow) (fun w hw => ?_) ?_
    · simp only [wp, wx, w_first_unknown_E1, in_wD (x := .v (.ref M.length)) (M := M ++ [Ob.lst (wD (headsN rows))]) (ws := headsN rows) (by simp [seqOf, hg]) (by intro z e; cases e) w]
      exact ⟨rfl, rfl⟩
    simp only [wp, wx, all_map]
    cases hA : rows[i].all fun w => decide (w ∈ headsN rows) with
    | true =>
      simp only [wp, wx]
      refine ⟨fun j hj hr => ?_, _, _, _, rfl⟩
      by_cases hji : j = i
      · subst hji; exact hA
      · exact hall j (by omega) hr
    | false =>
      simp only [wp, wx]
      rw [kFn_va (by simp)]
      refine ⟨?_, rfl⟩
      have : unkN rows = some i := findIdx_take _ rows i hir (fun j hj => by rw [hall j hj (by omega)]; rfl) (by rw [hA]; rfl)
      rw [this]; rfl
  · obtain ⟨rfl, hall, x2, x3, x4, rfl⟩ := j
    simp only [wp, wx]
    rw [kFn_va (by simp)]
    refine ⟨?_, rfl⟩
    have : unkN rows = none := by
      unfold unkN
      rw [List.findIdx?_eq_none_iff]
      intro r hr
      obtain ⟨j, hj, rfl⟩ := List.getElem_of_mem hr
      rw [hall j (by simp; omega) hj]; rfl
    rw [this]; rfl
def mofN (rows : List (List (List Nat))) : List (List Nat) := rows.map fun r => r.tail.map fun w => (headsN rows).idxOf w
theorem idx_txt {ws : List (List Nat)} {w : List Nat} (h : w ∈ ws) (M : Mem) : idxTF (.v (.tup (wD ws))) (.v (.str (txtS w))) M = some (.v (.int ((ws.idxOf w : Nat) : Int)), M) := by
  have ha : (wD ws).all flatD = true := by rw [List.all_eq_true]; intro d hd; obtain ⟨v, _, rfl⟩ := List.mem_map.mp hd; rfl
  have hf : ∀ ws : List (List Nat), w ∈ ws → (wD ws).findIdx? (fun d => d.eqb (.str (txtS w))) = some (ws.idxOf w) := by
    intro ws
    induction ws with
    | nil => intro h; simp at h
    | cons v ws ih =>
      intro h
      simp only [wD, List.map_cons, List.findIdx?_cons, eqb_txt]
      by_cases hv : v = w
      · subst hv; simp
      · have hw : w ∈ ws := by
          rcases List.mem_cons.mp h with h | h
          · exact absurd h.symm hv
          · exact h
        have hb : (v == w) = false := by simpa using hv
        have := ih hw
        simp only [wD] at this
        simp [hv, this, List.idxOf_cons, hb]
  simp only [idxTF, form, Option.bind_some, flatD, ha, and_self, if_true, hf ws h, Option.map_some]
theorem machine_of_w {rows : List (List (List Nat))} (hn : ∀ r ∈ rows, r ≠ []) (hk : ∀ r ∈ rows, ∀ w ∈ r, w ∈ headsN rows) {M : Mem} {q : Nat} (ha : RowsAt M q rows) : m_machine_of [.ref q] M = some (.v (.tup [tM (mofN rows), .tup (wD (headsN rows))]), M) := by
  refine wo_eq ?_
  unfold m_machine_of
  obtain ⟨ps, a1, a2, a3⟩ := ha.ex
  obtain ⟨hd1, hd2⟩ := RowsAt.heads a2 a3 hn
  simp only [wp, wx, wf, Nat.reduceSub, src_ref a1]
  refine wc_invL (hdD M) (ps.map D.ref) (chk_one a1) (fun d hd => ?_) ?_
  · simp only [wp, wx, w_machine_of_E3, hd2 d hd]
    exact ⟨rfl, rfl⟩
  rw [hd1, show (rows.map fun r => r.headD []) = headsN rows from rfl]
  simp only [wp, wx, tup_ol, src_ref a1]
  refine wc_inv (fun i acc M' => M' = M ∧ acc = ((mofN rows).take i).map tN) ⟨rfl, by simp⟩ (fun _ _ _ _ j => by rw [j.1]; exact chk_one a1) (fun i x acc M' hx j => ?_) (fun acc M' j => ?_)
  · obtain ⟨rfl, rfl⟩ := j
    rw [List.getElem?_map] at hx
    obtain ⟨p, e1, rfl⟩ := Option.map_eq_some_iff.mp hx
    obtain ⟨hi, rfl⟩ := List.getElem?_eq_some_iff.mp e1
    have hir : i < rows.length := by omega
    have hrow := a3 i hi hir
    have esl : slF (.v (.ref ps[i])) (some 1) none M' = some (.o (.lst (wD rows[i].tail)), M') := by
      rw [sl_ref hrow, cut_from (by decide)]
      have : ((1 : Int)).toNat = 1 := rfl
      rw [this]
      simp [wD, List.map_tail, ← List.drop_one, List.map_drop]
    simp only [wc, wp, wx, w_machine_of_E2, esl, src_ol]
    refine wc_map (fun w => D.str (txtS w)) (fun w => .int (((headsN rows).idxOf w : Nat) : Int)) rows[i].tail (fun w hw => ?_) ?_
    · have hm : w ∈ headsN rows := hk rows[i] (List.getElem_mem hir) w (List.mem_of_mem_tail hw)
      simp only [wp, wx, w_machine_of_E1, idx_txt hm]
      exact ⟨rfl, rfl⟩
    · simp only [wc, wp, wx, tup_ol]
      have hil : i < (mofN rows).length := by simpa [mofN] using hir
      rw [List.take_add_one, List.getElem?_eq_getElem hil, Option.toList_some, List.map_append]
      simp [mofN, tN, nats, Function.comp_def]
  · obtain ⟨rfl, rfl⟩ := j
    have hl : (ps.map D.ref).length = (mofN rows).length := by simp [mofN, a2]
    rw [hl, List.take_length]
    simp only [wp, wx, tup_ol]
    rw [kFn_v (d := .tup [.tup ((mofN rows).map tN), .tup (wD (headsN rows))]) (by
      rw [lo_tup, loL_cons, loL_cons, loL_nil]
      exact ⟨by show D.lo _ (tM (mofN rows)); simp, by rw [lo_tup]; exact lo_wD _ _, trivial⟩)]
    exact ⟨rfl, rfl⟩
noncomputable def _law_names_F1 (ρ : Env) (m : Mem) : Option R := (sIf (bAnd (bOf (eBin ltF (eVar 1) (eC (.int 9)))) (bOf (eBin gtF (eVar 4) (eC (.int 6))))) (sDo (eMt1 "list" appF (eVar 7) (eBin mulF (eVar 3) (eBin addF (eVar 8) (eC (.int 1)))))) (sSeq (sSet 9 (eBin ixF (eVar 2) (eBin modF (eBin addF (eVar 6) (eBin mulF (eC (.int 3)) (eVar 8))) (eC (.int 26)))))
    (sDo (eMt1 "list" appF (eVar 7) (eBin addF (eBin addF (eBin mulF (eVar 3) (eVar 5)) (eVar 9)) (eBin mulF (eVar 3) (eBin subF (eBin subF (eVar 4) (eC (.int 1))) (eVar 5)))))))) ρ m
theorem w__law_names_F1 {ρ : Env} {M : Mem} {Q : R → Prop} : WS _law_names_F1 ρ M Q ↔ WS (sIf (bAnd (bOf (eBin ltF (eVar 1) (eC (.int 9)))) (bOf (eBin gtF (eVar 4) (eC (.int 6))))) (sDo (eMt1 "list" appF (eVar 7) (eBin mulF (eVar 3) (eBin addF (eVar 8) (eC (.int 1)))))) (sSeq (sSet 9 (eBin ixF (eVar 2) (eBin modF (eBin addF (eVar 6) (eBin mulF (eC (.int 3)) (eVar 8))) (eC (.int 26)))))
    (sDo (eMt1 "list" appF (eVar 7) (eBin addF (eBin addF (eBin mulF (eVar 3) (eVar 5)) (eVar 9)) (eBin mulF (eVar 3) (eBin subF (eBin subF (eVar 4) (eC (.int 1))) (eVar 5)))))))) ρ M Q := Iff.rfl
noncomputable def m__law_names : Fn := fnD 2 10
    (sSeq (sSet 2 (eC (.str "abcdefghijklmnopqrstuvwxyz")))
    (sSeq (sSet 3 (eBin ixF (eVar 2) (eCall m__law_next (aCons (eVar 0) (aCons (eC (.int 26)) aNil)))))
    (sSeq (sSet 4 (eBin addF (eC (.int 1)) (eCall m__law_next (aCons (eVar 0) (aCons (eC (.int 8)) aNil)))))
    (sSeq (sSet 5 (eCall m__law_next (aCons (eVar 0) (aCons (eVar 4) aNil))))
    (sSeq (sSet 6 (eCall m__law_next (aCons (eVar 0) (aCons (eC (.int 26)) aNil))))
    (sSeq (sSet 7 (eLst aNil))
    (sSeq (sFor (iRg1 (eVar 1)) (gT (.nm 8)) _law_names_F1)
    (sRet (eUn tupF (eVar 7))))))))))
/-- the letters by threes are unlike -/
theorem three_inj {f j k : Nat} (hj : j < 26) (hk : k < 26) (h : (f + 3 * j) % 26 = (f + 3 * k) % 26) : j = k := by omega
theorem names_w {st : D} {ab : List Nat} {S : Mem → Prop} (g : Gen st ab S m__law_next) {M : Mem} (h : S M) {n : Nat} (hn : n ≤ 26) {K : PO2} (k : ∀ (nm : List (List Nat)) (M' : Mem), nm.length = n → nm.Nodup → (∀ w ∈ nm, nameB w = true) → S M' → Fr ab M M' → K (.v (.tup (wD nm))) M') : WO (m__law_names [st, .int (n : Int)] M) K := by
  unfold m__law_names
  have l26 : ltrs.length = 26 := by decide
  have abc : ("abcdefghijklmnopqrstuvwxyz" : Str) = txtS ltrs := by decide
  simp only [wp, wx, wf, Nat.reduceSub, abc]
  refine (Loc.new h).w g (n := 26) (by omega) (by omega) fun b M1 hb L1 o1 => ?_
  have hb' : b < ltrs.length := by omega
  simp only [wp, wx, txt_ix (show ltrs.length ≤ 90000 by omega) hb']
  refine L1.w g (n := 8) (by omega) (by omega) fun sz M2 hsz L2 o2 => ?_
  have e1 : (1 : Int) + (sz : Int) = ((1 + sz : Nat) : Int) := by omega
  simp only [wp, wx, add_int, e1]
  refine L2.w g (n := 1 + sz) (by omega) (by omega) fun at_ M3 hat L3 o3 => ?_
  simp only [wp, wx]
  refine L3.w g (n := 26) (by omega) (by omega) fun f M4 hf L4 o4 => ?_
  have hlm : ∀ {c : Nat} (hc : c < ltrs.length), ltrs[c] ∈ ltrs := fun hc => List.getElem_mem hc
  have rep : ∀ n : Nat, (List.replicate n [ltrs[b]]).flatten = List.replicate n ltrs[b] := fun n => by
    induction n with
    | zero => rfl
    | succ n ih => rw [List.replicate_succ, List.flatten_cons, ih]; rfl
  have nall : ∀ {cs : List Nat}, 1 ≤ cs.length → cs.length ≤ 8 → (∀ c ∈ cs, c ∈ ltrs) → nameB cs = true := fun h1 h2 h => by
    unfold nameB
    rw [Bool.and_eq_true, Bool.and_eq_true, decide_eq_true_iff, decide_eq_true_iff, List.all_eq_true]
    exact ⟨h1, h2, fun c hc => decide_eq_true (h c hc)⟩
  -- the names by their numbers
  have main : ∀ nf : Nat → List Nat, (∀ i, i < n → nameB (nf i) = true) → (∀ i j, i < n → j < n → nf i = nf j → i = j) → (∀ (i : Nat) (M' : Mem) (x9 : Option D), i < n → Loc ab S M M' → M'[M4.length]? = some (.lst (wD ((List.range i).map nf))) → WS _law_names_F1 [some st, some (.int (n : Int)), some (.str (txtS ltrs)), some (.str (txtS [ltrs[b]])), some (.int ((1 + sz : Nat) : Int)), some (.int (at_ : Int)), some (.int (f : Int)), some (.ref M4.length), some (.int (i : Int)), x9] M' (fun r => ∃ x9, r = .nx [some st, some (.int (n : Int)), some (.str (txtS ltrs)), some (.str (txtS [ltrs[b]])), some (.int ((1 + sz : Nat) : Int)), some (.int (at_ : Int)), some (.int (f : Int)), some (.ref M4.length), some (.int (i : Int)), x9] (M'.set M4.length (.lst (wD ((List.range (i + 1)).map nf)))))) → WL (gT (.nm 8)) _law_names_F1 [] (upto 0 n) [some st, some (.int (n : Int)), some (.str (txtS ltrs)), some (.str (txtS [ltrs[b]])), some (.int ((1 + sz : Nat) : Int)), some (.int (at_ : Int)), some (.int (f : Int)), some (.ref M4.length), none, none] (M4 ++ [Ob.lst []]) (kSeq (sRet (eUn tupF (eVar 7))) (kFn M K)) := fun nf n1 n2 n3 => by
    refine wl_rg0 (fun i ρ M' => Loc ab S M M' ∧ M'[M4.length]? = some (.lst (wD ((List.range i).map nf))) ∧ ∃ x8 x9, ρ = [some st, some (.int (n : Int)), some (.str (txtS ltrs)), some (.str (txtS [ltrs[b]])), some (.int ((1 + sz : Nat) : Int)), some (.int (at_ : Int)), some (.int (f : Int)), some (.ref M4.length), x8, x9]) ⟨L4.app g _, get_end rfl, _, _, rfl⟩ (fun i ρ M' hi j => ?_) (fun ρ M' j => ?_)
    · obtain ⟨L, hq, x8, x9, rfl⟩ := j
      obtain ⟨r, er, x9', rfl⟩ := n3 i M' x9 hi L hq
      refine ⟨_, _, rfl, ?_⟩
      exact ⟨_, er, L.set g L4.le _, get_put hq, _, _, rfl⟩
    · obtain ⟨L, hq, x8, x9, rfl⟩ := j
      simp only [wp, wx, tup_ref hq]
      refine L.kFn g (by rw [lo_tup]; exact lo_wD _ _) fun M5 s5 f5 => k _ M5 (by simp) ?_ ?_ s5 f5
      · rw [List.Nodup, List.pairwise_map]
        refine (List.Pairwise.and_mem.mp List.pairwise_lt_range).imp fun {x y} h e => ?_
        have := n2 x y (List.mem_range.mp h.1) (List.mem_range.mp h.2.1) e
        have := h.2.2
        omega
      · intro w hw
        obtain ⟨i, hi, rfl⟩ := List.mem_map.mp hw
        exact n1 i (List.mem_range.mp hi)
  have snoc : ∀ (nf : Nat → List Nat) (i : Nat), wD ((List.range i).map nf) ++ [.str (txtS (nf i))] = wD ((List.range (i + 1)).map nf) := fun nf i => by
    rw [List.range_succ]; simp [wD]
  simp only [wp, wx]
  refine ⟨rg_nat (by omega), ?_⟩
  rw [Int.toNat_natCast]
  by_cases hc : n < 9 ∧ 6 < 1 + sz
  · refine main (fun k => List.replicate (k + 1) ltrs[b]) (fun i hi => nall (by simp) (by simp; omega) fun c hc => by rw [List.eq_of_mem_replicate hc]; exact hlm _) (fun i j _ _ e => by have := congrArg List.length e; simpa using this) (fun i M' x9 hi L hq => ?_)
    have d1 : decide ((n : Int) < 9) = true := decide_eq_true (by omega)
    have d2 : decide ((6 : Int) < ((1 + sz : Nat) : Int)) = true := decide_eq_true (by omega)
    have e2 : (i : Int) + 1 = ((i + 1 : Nat) : Int) := by omega
    simp only [wp, wx, w__law_names_F1, ltF, gtF, cmp_int, d1, d2, isT_ref hq, add_int, e2, txt_mul (a := [ltrs[b]]) (n := i + 1) (by simp; omega) (by omega), rep, app_ref hq (show (wD ((List.range i).map fun k => List.replicate (k + 1) ltrs[b])).length ≤ 90000 by rw [wD_len]; simp; omega)]
    exact ⟨_, by rw [← snoc]⟩
  · refine main (fun k => List.replicate at_ ltrs[b] ++ [ltrs.getD ((f + 3 * k) % 26) 0] ++ List.replicate (1 + sz - 1 - at_) ltrs[b]) (fun i hi => nall (by simp; omega) (by simp; omega) fun c hc => ?_) (fun i j hi hj e => ?_) (fun i M' x9 hi L hq => ?_)
    · have hm : (f + 3 * i) % 26 < ltrs.length := by have := Nat.mod_lt (f + 3 * i) (show 26 > 0 by omega); omega
      rcases List.mem_append.mp hc with hc | hc
      · rcases List.mem_append.mp hc with hc | hc
        · rw [List.eq_of_mem_replicate hc]; exact hlm _
        · simp only [List.mem_singleton] at hc
          rw [hc, show ltrs.getD ((f + 3 * i) % 26) 0 = ltrs[(f + 3 * i) % 26] by simp [List.getD, hm]]; exact hlm _
      · rw [List.eq_of_mem_replicate hc]; exact hlm _
    · have e2 : ltrs.getD ((f + 3 * i) % 26) 0 = ltrs.getD ((f + 3 * j) % 26) 0 := by
        have := List.append_cancel_right e
        have := List.append_cancel_left this
        simpa using this
      have inj : ∀ a b, a < 26 → b < 26 → ltrs.getD a 0 = ltrs.getD b 0 → a = b := fun a b ha hb h => by
        have ga : ∀ a, a < 26 → ltrs.getD a 0 = 97 + a := fun a ha => by
          unfold ltrs
          rw [List.getD, List.getElem?_range' (by omega)]
          simp
        rw [ga a ha, ga b hb] at h; omega
      exact three_inj (by omega) (by omega) (inj _ _ (Nat.mod_lt _ (by omega)) (Nat.mod_lt _ (by omega)) e2)
    · have hm : (f + 3 * i) % 26 < ltrs.length := by have := Nat.mod_lt (f + 3 * i) (show 26 > 0 by omega); omega
      have e3 : ∀ M : Mem, mulF (.v (.int 3)) (.v (.int (i : Int))) M = some (.v (.int (3 * (i : Int))), M) := fun M => by
        have : mulOk 3 (i : Int) := .inl (by omega)
        simp only [mulF, if_pos this]
      have e4 : ∀ M : Mem, modF (.v (.int ((f : Int) + 3 * (i : Int)))) (.v (.int 26)) M = some (.v (.int (((f + 3 * i) % 26 : Nat) : Int)), M) := fun M => by
        rw [mod_int, if_pos (by omega)]; rfl
      have e5 : ((1 + sz : Nat) : Int) - 1 - (at_ : Int) = ((1 + sz - 1 - at_ : Nat) : Int) := by omega
      have eg : ltrs.getD ((f + 3 * i) % 26) 0 = ltrs[(f + 3 * i) % 26] := by simp [List.getD, hm]
      simp only [wp, wx, w__law_names_F1, ltF, gtF, cmp_int]
      have fin : WS (sSeq (sSet 9 (eBin ixF (eVar 2) (eBin modF (eBin addF (eVar 6) (eBin mulF (eC (.int 3)) (eVar 8))) (eC (.int 26))))) (sDo (eMt1 "list" appF (eVar 7) (eBin addF (eBin addF (eBin mulF (eVar 3) (eVar 5)) (eVar 9)) (eBin mulF (eVar 3) (eBin subF (eBin subF (eVar 4) (eC (.int 1))) (eVar 5))))))) [some st, some (.int (n : Int)), some (.str (txtS ltrs)), some (.str (txtS [ltrs[b]])), some (.int ((1 + sz : Nat) : Int)), some (.int (at_ : Int)), some (.int (f : Int)), some (.ref M4.length), some (.int (i : Int)), x9] M' (fun r => ∃ x9, r = .nx [some st, some (.int (n : Int)), some (.str (txtS ltrs)), some (.str (txtS [ltrs[b]])), some (.int ((1 + sz : Nat) : Int)), some (.int (at_ : Int)), some (.int (f : Int)), some (.ref M4.length), some (.int (i : Int)), x9] (M'.set M4.length (.lst (wD ((List.range (i + 1)).map fun k => List.replicate at_ ltrs[b] ++ [ltrs.getD ((f + 3 * k) % 26) 0] ++ List.replicate (1 + sz - 1 - at_) ltrs[b]))))) := by
        simp only [wp, wx, e3, add_int, e4, txt_ix (show ltrs.length ≤ 90000 by omega) hm, isT_ref hq, txt_mul (a := [ltrs[b]]) (n := at_) (by simp; omega) (by omega), rep, txt_add (a := List.replicate at_ ltrs[b]) (b := [ltrs[(f + 3 * i) % 26]]) (by simp; omega), sub_int, e5, txt_mul (a := [ltrs[b]]) (n := 1 + sz - 1 - at_) (by simp; omega) (by omega), txt_add (a := List.replicate at_ ltrs[b] ++ [ltrs[(f + 3 * i) % 26]]) (b := List.replicate (1 + sz - 1 - at_) ltrs[b]) (by simp; omega), app_ref hq (show (wD ((List.range i).map fun k => List.replicate at_ ltrs[b] ++ [ltrs.getD ((f + 3 * k) % 26) 0] ++ List.replicate (1 + sz - 1 - at_) ltrs[b])).length ≤ 90000 by rw [wD_len]; simp; omega)]
        exact ⟨_, by rw [← snoc, eg]⟩
      by_cases h9 : n < 9
      · have d1 : decide ((n : Int) < 9) = true := decide_eq_true (by omega)
        have d2 : decide ((6 : Int) < ((1 + sz : Nat) : Int)) = false := decide_eq_false (by omega)
        simp only [d1, d2, wp, wx, gtF, cmp_int]
        simp only [wp, wx] at fin
        exact fin
      · have d1 : decide ((n : Int) < 9) = false := decide_eq_false (by omega)
        simp only [d1, wp, wx]
        simp only [wp, wx] at fin
        exact fin
noncomputable def read_machine_F1 (ρ : Env) (m : Mem) : Option Rx := (xSeq (xL (sSet 7 (eCall m_words_in (aCons (eVar 6) aNil))))
    (xIf (bOf (eBin gtF (eUn lenF (eVar 7)) (eC (.int 0)))) (xSeq (xL (sSet 8 (eCall m_row_fault (aCons (eVar 7) (aCons (eVar 2) aNil)))))
    (xSeq (xIf (bOf (eBin (isF true) (eVar 8) (eC .non))) (xRz "NoMachine" ["row", "word"] (aCons (eVar 5) (aCons (eVar 8) aNil))) (xL sNil))
    (xSeq (xL (sDo (eMt1 "list" appF (eVar 1) (eVar 5))))
    (xL (sDo (eMt1 "list" appF (eVar 2) (eVar 7))))))) (xL sNil))) ρ m
theorem w_read_machine_F1 {ρ : Env} {M : Mem} {Q : Rx → Prop} : WXs read_machine_F1 ρ M Q ↔ WXs (xSeq (xL (sSet 7 (eCall m_words_in (aCons (eVar 6) aNil))))
    (xIf (bOf (eBin gtF (eUn lenF (eVar 7)) (eC (.int 0)))) (xSeq (xL (sSet 8 (eCall m_row_fault (aCons (eVar 7) (aCons (eVar 2) aNil)))))
    (xSeq (xIf (bOf (eBin (isF true) (eVar 8) (eC .non))) (xRz "NoMachine" ["row", "word"] (aCons (eVar 5) (aCons (eVar 8) aNil))) (xL sNil))
    (xSeq (xL (sDo (eMt1 "list" appF (eVar 1) (eVar 5))))
    (xL (sDo (eMt1 "list" appF (eVar 2) (eVar 7))))))) (xL sNil))) ρ M Q := Iff.rfl
noncomputable def m_read_machine : FnX := fnX 1 9
    (xSeq (xL (sSet 1 (eLst aNil)))
    (xSeq (xL (sSet 2 (eLst aNil)))
    (xSeq (xL (sSet 3 (eMt1 "str" splF (eVar 0) (eC (.str "\n")))))
    (xSeq (xFor (iEnumE (eVar 3)) (gT (.tp [5, 6])) read_machine_F1)
    (xSeq (xL (sSet 4 (eCall m_first_unknown (aCons (eVar 2) aNil))))
    (xSeq (xIf (bOf (eBin (isF true) (eVar 4) (eC .non))) (xRz "NoMachine" ["row", "word"] (aCons (eBin ixF (eVar 1) (eVar 4)) (aCons (eC (.str "room")) aNil))) (xL sNil))
    (xSeq (xIf (bOf (eBin eqF (eUn lenF (eVar 2)) (eC (.int 0)))) (xRz "NoMachine" ["row", "word"] (aCons (eUn lenF (eVar 3)) (aCons (eC (.str "none")) aNil))) (xL sNil))
    (xL (sRet (eCall m_machine_of (aCons (eVar 2) aNil)))))))))))
/-! ### a machine's text is read or refused -/
theorem wxl_inv {g : G} {body : Sx} {lv : List (Nat × Ob)} {xs : List D} {ρ : Env} {M : Mem} {Q : Rx → Prop} (J : Nat → Env → Mem → Prop) (h0 : J 0 ρ M) (hl : ∀ i ρ M, i ≤ xs.length → J i ρ M → chk lv M)
    (step : ∀ i x ρ M, xs[i]? = some x → J i ρ M → WG g x ρ M (kXG body (fun r => match r with
      | .ok (.nx ρ M) => J (i + 1) ρ M
      | .ok (.ct ρ M) => J (i + 1) ρ M
      | .ok (.bk ρ M) => Q (.ok (.nx ρ M))
      | .ok (.rt x M) => Q (.ok (.rt x M))
      | .er x ρ M => Q (.er x ρ M)))) (done : ∀ ρ M, J xs.length ρ M → Q (.ok (.nx ρ M))) : WXl g body lv xs ρ M Q := by
  have h : ∀ (n k : Nat) (ρ : Env) (M : Mem), n + k = xs.length → J k ρ M → WXl g body lv (xs.drop k) ρ M Q := by
    intro n
    induction n with
    | zero =>
      intro k ρ M e j
      rw [List.drop_eq_nil_of_le (by omega)]
      exact wxl_nil (hl k ρ M (by omega) j) (done ρ M (by rw [show xs.length = k by omega]; exact j))
    | succ n ih =>
      intro k ρ M e j
      have hk : k < xs.length := by omega
      rw [List.drop_eq_getElem_cons hk]
      refine wxl_cons (hl k ρ M (by omega) j) ?_
      obtain ⟨ρ1, M1, e1, r, e2, p⟩ := step k _ ρ M (List.getElem?_eq_getElem hk) j
      refine ⟨ρ1, M1, e1, r, e2, ?_⟩
      cases r with
      | ok r =>
        cases r with
        | nx ρ2 M2 => exact ih (k + 1) ρ2 M2 (by omega) p
        | ct ρ2 M2 => exact ih (k + 1) ρ2 M2 (by omega) p
        | bk ρ2 M2 => exact p
        | rt v M2 => exact p
      | er x ρ2 M2 => exact p
  have := h xs.length 0 ρ M (by omega) h0
  rw [List.drop_zero] at this
  exact this
abbrev Row := List (List Nat)
/-- the rows that have words -/
def full (W : List Row) : List Row := W.filter fun ws => decide (ws ≠ [])
def dueF : Nat → List Row → List Row → Option (Nat × Str)
  | _, _, [] => none
  | i, ah, ws :: rest => if ws = [] then dueF (i + 1) ah rest else match faultN ws ah with
    | some f => some (i, f)
    | none => dueF (i + 1) (ah ++ [ws]) rest
theorem dueF_cons (i : Nat) (ah : List Row) (ws : Row) (rest : List Row) : dueF i ah (ws :: rest) = if ws = [] then dueF (i + 1) ah rest else match faultN ws ah with
    | some f => some (i, f)
    | none => dueF (i + 1) (ah ++ [ws]) rest := rfl
def unkB (W : List Row) (r : Row) : Bool := !(r.all fun w => decide (w ∈ headsN (full W)))
def dueU (W : List Row) : Option Nat := W.findIdx? (unkB W)
/-- the first fault -/
def dueN (W : List Row) : Option (Nat × Str) := match dueF 0 [] W with
  | some x => some x
  | none => match dueU W with
    | some i => some (i, "room")
    | none => if full W = [] then some (max 1 W.length, "none") else none
def plI : Nat → List Row → List Nat
  | _, [] => []
  | i, ws :: r => if ws = [] then plI (i + 1) r else i :: plI (i + 1) r
theorem plI_snoc : ∀ (l : List Row) (k : Nat) (a : Row), plI k (l ++ [a]) = plI k l ++ if a = [] then [] else [k + l.length]
  | [], k, a => by
    by_cases h : a = [] <;> simp [plI, h]
  | b :: l, k, a => by
    have ih := plI_snoc l (k + 1) a
    simp only [List.cons_append, plI, ih]
    by_cases hb : b = []
    · simp only [hb, if_true, List.length_cons]
      rw [show k + 1 + l.length = k + (l.length + 1) by omega]
    · simp only [hb, if_false, List.length_cons, List.cons_append]
      rw [show k + 1 + l.length = k + (l.length + 1) by omega]
theorem full_snoc (l : List Row) (a : Row) : full (l ++ [a]) = if a = [] then full l else full l ++ [a] := by
  unfold full
  rw [List.filter_append]
  split
  · rename_i h; simp [h]
  · rename_i h; simp [h]
theorem plI_find (p : Row → Bool) (hp : p [] = false) : ∀ (W : List Row) (k : Nat), match (full W).findIdx? p with
    | none => W.findIdx? p = none
    | some u => ∃ j, W.findIdx? p = some j ∧ (plI k W)[u]? = some (k + j)
  | [], k => rfl
  | ws :: W, k => by
    have ih := plI_find p hp W (k + 1)
    by_cases hw : ws = []
    · subst hw
      have e1 : full ([] :: W) = full W := rfl
      have e2 : plI k ([] :: W) = plI (k + 1) W := by simp [plI]
      rw [e1, e2]
      cases h : (full W).findIdx? p with
      | none => rw [h] at ih; simp only at ih ⊢; rw [List.findIdx?_cons, hp, ih]; rfl
      | some u =>
        rw [h] at ih
        obtain ⟨j, h1, h2⟩ := ih
        exact ⟨j + 1, by rw [List.findIdx?_cons, hp, h1]; rfl, by rw [h2]; congr 1; omega⟩
    · have e1 : full (ws :: W) = ws :: full W := by unfold full; rw [List.filter_cons, if_pos (by simpa using hw)]
      have e2 : plI k (ws :: W) = k :: plI (k + 1) W := by simp [plI, hw]
      rw [e1, e2]
      cases hpw : p ws with
      | true => rw [List.findIdx?_cons, hpw]; exact ⟨0, by rw [List.findIdx?_cons, hpw]; rfl, rfl⟩
      | false =>
        rw [List.findIdx?_cons, hpw]
        cases h : (full W).findIdx? p with
        | none => rw [h] at ih; simp only at ih ⊢; rw [List.findIdx?_cons, hpw, ih]; rfl
        | some u =>
          rw [h] at ih
          obtain ⟨j, h1, h2⟩ := ih
          exact ⟨j + 1, by rw [List.findIdx?_cons, hpw, h1]; rfl, by
            show (k :: plI (k + 1) W)[u + 1]? = _
            rw [List.getElem?_cons_succ, h2]; congr 1; omega⟩
theorem full_ne {W : List Row} : ∀ r ∈ full W, r ≠ [] := fun r hr => by simpa using (List.mem_filter.mp hr).2
theorem full_len (W : List Row) : (full W).length ≤ W.length := List.length_filter_le _ _
theorem unk_place {W : List Row} : match unkN (full W) with
    | none => dueU W = none
    | some u => ∃ j, dueU W = some j ∧ (plI 0 W)[u]? = some j := by
  have h := plI_find (unkB W) (by simp [unkB]) W 0
  unfold unkN dueU
  rw [show (fun r : Row => !(r.all fun w => decide (w ∈ headsN (full W)))) = unkB W from rfl]
  cases e : (full W).findIdx? (unkB W) with
  | none => rw [e] at h; exact h
  | some u =>
    rw [e] at h
    obtain ⟨j, h1, h2⟩ := h
    exact ⟨j, h1, by rw [h2]; congr 1; omega⟩
theorem enum_wD {M : Mem} {q : Nat} {ws : List (List Nat)} (h : M[q]? = some (.lst (wD ws))) : enumOf (.v (.ref q)) M = some ⟨(ws.zipIdx).map fun p => D.par [.int ((p.2 : Nat) : Int), .str (txtS p.1)], [(q, .lst (wD ws))]⟩ := by
  have : ∀ (ws : List (List Nat)) (i : Nat), enumD i (wD ws) = (ws.zipIdx i).map fun p => D.par [.int ((p.2 : Nat) : Int), .str (txtS p.1)] := by
    intro ws
    induction ws with
    | nil => intro i; simp [wD, enumD]
    | cons a ws ih =>
      intro i
      have := ih (i + 1)
      simp only [wD] at this
      simp [wD, enumD, this]
  simp only [enumOf, lsrc, h, Option.bind_some, this]
theorem splitL_lenx (c : Nat) : ∀ a, (splitL c a).length ≤ a.length + 1 ∧ ∀ p ∈ splitL c a, p.length ≤ a.length
  | [] => by simp [splitL]
  | x :: xs => by
    obtain ⟨h1, h2⟩ := splitL_lenx c xs
    unfold splitL
    split
    · refine ⟨by simp; omega, fun p hp => ?_⟩
      rcases List.mem_cons.mp hp with rfl | hp
      · simp
      · have := h2 p hp; simp; omega
    · split
      · exact ⟨by simp, fun p hp => by simp at hp; subst hp; simp⟩
      · rename_i q qs e
        rw [e] at h1 h2
        refine ⟨by simp at h1 ⊢; omega, fun p hp => ?_⟩
        rcases List.mem_cons.mp hp with rfl | hp
        · have := h2 q List.mem_cons_self; simp; omega
        · have := h2 p (List.mem_cons_of_mem _ hp); simp; omega
theorem wordsL_lenx (a : List Nat) : (wordsL a).length ≤ a.length + 1 ∧ ∀ w ∈ wordsL a, w.length ≤ a.length ∧ w ≠ [] := by
  obtain ⟨h1, h2⟩ := splitL_lenx 32 a
  refine ⟨Nat.le_trans (List.length_filter_le _ _) h1, fun w hw => ?_⟩
  have := List.mem_filter.mp hw
  exact ⟨h2 w this.1, by simpa using this.2⟩
structure RdX (M M' : Mem) (lines : List (List Nat)) (W : List Row) : Prop where
  pre : ∃ e, M' = M ++ e
  ln : M'[M.length + 2]? = some (.lst (wD lines))
  pl : M'[M.length]? = some (.lst (nats (plI 0 W)))
  rw : ∃ ps : List Nat, M'[M.length + 1]? = some (.lst (ps.map D.ref)) ∧ ps.length = (full W).length ∧ (∀ p ∈ ps, M.length + 3 ≤ p) ∧ ∀ i (h1 : i < ps.length) (h2 : i < (full W).length), M'[ps[i]]? = some (.lst (wD (full W)[i]))
theorem RdX.at {M M' : Mem} {lines : List (List Nat)} {W : List Row} (I : RdX M M' lines W) : RowsAt M' (M.length + 1) (full W) := by
  obtain ⟨ps, h1, h2, _, h3⟩ := I.rw
  exact ⟨ps, h1, h2, h3⟩
theorem RdX.app {M M' : Mem} {lines : List (List Nat)} {W : List Row} (I : RdX M M' lines W) (o : Ob) : RdX M (M' ++ [o]) lines W := by
  obtain ⟨e, he⟩ := I.pre
  obtain ⟨ps, a1, a2, a3, a4⟩ := I.rw
  exact ⟨⟨e ++ [o], by rw [he]; simp⟩, get_app I.ln, get_app I.pl, ps, get_app a1, a2, a3, fun i x y => get_app (a4 i x y)⟩
theorem plI_len : ∀ (W : List Row) (k : Nat), (plI k W).length = (full W).length
  | [], k => rfl
  | ws :: W, k => by
    have ih := plI_len W (k + 1)
    by_cases h : ws = []
    · subst h; show (plI k ([] :: W)).length = (full W).length; simp [plI, ih]
    · rw [show full (ws :: W) = ws :: full W by unfold full; rw [List.filter_cons, if_pos (by simpa using h)]]
      simp [plI, h, ih]
/-- the text's rows of words -/
def rowsX (t : List Nat) : List Row := (splitL 10 t).map wordsL
theorem read_x {t : List Nat} (ht : Asc t) (hl : t.length ≤ 8000) {M : Mem} {K : Rz → Mem → Prop}
    (k1 : dueN (rowsX t) = none → K (.ok (.v (.tup [tM (mofN (full (rowsX t))), .tup (wD (headsN (full (rowsX t))))]))) M)
    (k2 : ∀ i f, dueN (rowsX t) = some (i, f) → K (.er ⟨"NoMachine", [("word", .str f), ("row", .int (i : Int))]⟩) M) : WXo (m_read_machine [.str (txtS t)] M) K := by
  unfold m_read_machine
  have e1 : ("\n" : Str) = txtS [10] := by decide
  have hll : (splitL 10 t).length ≤ 8001 := by have := (splitL_lenx 10 t).1; omega
  have hla : ∀ a ∈ splitL 10 t, Asc a ∧ a.length ≤ 8000 := fun a ha => ⟨splitL_asc ht a ha, by have := (splitL_lenx 10 t).2 a ha; omega⟩
  have hne := splitL_ne 10 t
  have hW : rowsX t = (splitL 10 t).map wordsL := rfl
  generalize hlines : splitL 10 t = lines at hll hla hne hW
  simp only [fx_1, wp, wx, wf, wxx, Nat.reduceSub, isT_str, e1, txt_splF (show t.length ≤ 90000 by omega), hlines]
  rw [show (lines.map fun p => D.str (txtS p)) = wD lines from rfl]
  generalize hWe : rowsX t = W at *
  have hWl : W.length = lines.length := by rw [hW]; simp
  have l1 : (M ++ [Ob.lst []]).length = M.length + 1 := by simp
  have l2 : (M ++ [Ob.lst []] ++ [Ob.lst []]).length = M.length + 2 := by simp
  rw [l1, l2]
  have I0 : RdX M (M ++ [Ob.lst []] ++ [Ob.lst []] ++ [Ob.lst (wD lines)]) lines [] := ⟨⟨[Ob.lst [], Ob.lst [], Ob.lst (wD lines)], by simp⟩, by rw [← l2]; exact get_end rfl, get_app (get_app (get_end rfl)), [], get_app (by rw [← l1]; exact get_end rfl), by simp [full], by simp, by simp⟩
  have hrn : ∀ n, ∀ r ∈ full (W.take n), r ≠ [] ∧ r.length ≤ 9000 := fun n r hr => by
    refine ⟨full_ne r hr, ?_⟩
    have hm := List.mem_of_mem_take (List.mem_filter.mp hr).1
    rw [hW] at hm
    obtain ⟨a, ha, rfl⟩ := List.mem_map.mp hm
    have h1 := (hla a ha).2
    have h2 := (wordsL_lenx a).1
    omega
  have hrl : ∀ n, (full (W.take n)).length ≤ 8001 := fun n => by
    refine Nat.le_trans (full_len _) ?_
    simp; omega
  have bye : ∀ (f : Str) (i : Nat), (([("word", D.str f), ("row", D.int (i : Int))] : List (Str × D)).all fun p => atomD p.2) = true := fun f i => rfl
  simp only [enum_wD I0.ln, wp, wx, wxx]
  refine wxl_inv (fun i ρ M' => RdX M M' lines (W.take i) ∧ dueF 0 [] W = dueF i (full (W.take i)) (W.drop i) ∧ ∃ x5 x6 x7 x8, ρ = [some (.str (txtS t)), some (.ref M.length), some (.ref (M.length + 1)), some (.ref (M.length + 2)), none, x5, x6, x7, x8]) ⟨by simpa using I0, by simp [full], _, _, _, _, rfl⟩ (fun i ρ M' _ j => chk_one j.1.ln) (fun i x ρ M' hx j => ?_) (fun ρ M' j => ?_)
  · obtain ⟨I, hd, x5, x6, x7, x8, rfl⟩ := j
    rw [List.getElem?_map] at hx
    obtain ⟨pr, h1, rfl⟩ := Option.map_eq_some_iff.mp hx
    obtain ⟨hi, rfl⟩ := List.getElem?_eq_some_iff.mp h1
    have hi' : i < lines.length := by simpa using hi
    have hiW : i < W.length := by omega
    have ez : (lines.zipIdx)[i] = (lines[i], i) := by simp
    have eW : W[i] = wordsL lines[i] := by simp [hW]
    rw [ez]
    have hA := hla lines[i] (List.getElem_mem hi')
    have htk : W.take (i + 1) = W.take i ++ [W[i]] := by rw [List.take_add_one, List.getElem?_eq_getElem hiW, Option.toList_some]
    have hsn := full_snoc (W.take i) W[i]
    have hps := plI_snoc (W.take i) 0 W[i]
    rw [← htk] at hsn hps
    have htl : (W.take i).length = i := by simp; omega
    rw [htl, Nat.zero_add] at hps
    rw [List.drop_eq_getElem_cons hiW] at hd
    rw [dueF_cons] at hd
    rw [eW] at hd hsn hps
    simp only [wp, wx, wxx, w_read_machine_F1, words_in_w (show lines[i].length ≤ 90000 by omega) hA.1]
    have I2 := I.app (Ob.lst (wD (wordsL lines[i])))
    have hg : (M' ++ [Ob.lst (wD (wordsL lines[i]))])[M'.length]? = some (.lst (wD (wordsL lines[i]))) := get_end rfl
    have hM' : M.length + 3 ≤ M'.length := by have := get_lt I.ln; omega
    have elen : lenF (.v (.ref M'.length)) (M' ++ [Ob.lst (wD (wordsL lines[i]))]) = some (.v (.int ((wordsL lines[i]).length : Int)), M' ++ [Ob.lst (wD (wordsL lines[i]))]) := by rw [len_ref hg, wD_len]
    simp only [elen, gtF, cmp_int, wp, wx, wxx]
    by_cases hw : wordsL lines[i] = []
    · have h0 : decide ((0 : Int) < ((wordsL lines[i]).length : Int)) = false := by rw [hw]; rfl
      simp only [h0, wp, wx, wxx]
      rw [if_pos hw] at hsn hps hd
      have I3 : RdX M (M' ++ [Ob.lst (wD (wordsL lines[i]))]) lines (W.take (i + 1)) := ⟨I2.pre, I2.ln, by rw [hps, List.append_nil]; exact I2.pl, by rw [hsn]; exact I2.rw⟩
      exact ⟨I3, by rw [hsn]; exact hd, _, _, _, _, rfl⟩
    · have hpos : 0 < (wordsL lines[i]).length := List.length_pos_iff.mpr hw
      have h0 : decide ((0 : Int) < ((wordsL lines[i]).length : Int)) = true := decide_eq_true (by omega)
      have hwl := wordsL_lenx lines[i]
      have hrf := row_fault_w (ws := wordsL lines[i]) (ahead := full (W.take i)) hpos (by omega) (fun w hw => by have := (hwl.2 w hw).1; omega) (by have := hrl i; omega) (hrn i) hg I2.at
      rw [if_neg hw] at hsn hps hd
      obtain ⟨e0, he0⟩ := I2.pre
      cases hf : faultN (wordsL lines[i]) (full (W.take i)) with
      | some f =>
        rw [hf] at hd
        have his : ∀ (M : Mem) (f : Str), isF true (.v (.str f)) (.v .non) M = some (.v (.bl true), M) := fun M f => rfl
        simp only [h0, hrf, hf, oD, his, wp, wx, wxx]
        refine ⟨rfl, ⟨bye f i, ?_⟩⟩
        rw [he0, shut_v (by simp)]
        refine k2 i f ?_
        unfold dueN
        rw [hd]
      | none =>
        rw [hf] at hd
        have his : ∀ M : Mem, isF true (.v .non) (.v .non) M = some (.v (.bl false), M) := fun M => rfl
        have p1 := I2.pl
        have hpl : (nats (plI 0 (W.take i))).length ≤ 90000 := by have := hrl i; simp [plI_len]; omega
        simp only [h0, hrf, hf, oD, his, wp, wx, wxx, isT_ref p1, app_ref p1 hpl]
        obtain ⟨ps, a1, a2, a3, a4⟩ := I2.rw
        have a1' : ((M' ++ [Ob.lst (wD (wordsL lines[i]))]).set M.length (.lst (nats (plI 0 (W.take i)) ++ [.int (i : Int)])))[M.length + 1]? = some (.lst (ps.map D.ref)) := get_other a1 (by omega)
        have hpsl : (ps.map D.ref).length ≤ 90000 := by have := hrl i; simp; omega
        simp only [isT_ref a1', app_ref a1' hpsl, wp, wx, wxx]
        refine ⟨⟨?_, ?_, ?_, ?_⟩, by rw [hsn]; exact hd, _, _, _, _, rfl⟩
        · obtain ⟨e, he⟩ := I2.pre
          rw [he, sm0, smk]
          exact ⟨_, rfl⟩
        · exact get_other (get_other I2.ln (by omega)) (by omega)
        · rw [hps, show nats (plI 0 (W.take i) ++ [i]) = nats (plI 0 (W.take i)) ++ [.int (i : Int)] by simp [nats]]
          exact get_other (get_put p1) (by omega)
        · rw [hsn]
          refine ⟨ps ++ [M'.length], ?_, by simp [a2], ?_, ?_⟩
          · rw [get_put a1']; simp
          · intro p hp
            rcases List.mem_append.mp hp with hp | hp
            · exact a3 p hp
            · simp at hp; omega
          · intro j h1 h2
            by_cases hj : j < ps.length
            · have hjr : j < (full (W.take i)).length := by omega
              have := a3 ps[j] (List.getElem_mem hj)
              rw [List.getElem_append_left hj, List.getElem_append_left hjr]
              exact get_other (get_other (a4 j hj hjr) (by omega)) (by omega)
            · have hj' : j = ps.length := by simp at h1; omega
              subst hj'
              rw [List.getElem_append_right (Nat.le_refl _), List.getElem_append_right (by omega)]
              simp only [Nat.sub_self, List.getElem_cons_zero, a2]
              exact get_other (get_other hg (by omega)) (by omega)
  · obtain ⟨I, hd, x5, x6, x7, x8, rfl⟩ := j
    rw [show ((lines.zipIdx).map fun p => D.par [.int ((p.2 : Nat) : Int), .str (txtS p.1)]).length = lines.length by simp, ← hWl, List.take_length] at I hd
    rw [List.drop_eq_nil_of_le (Nat.le_refl _), dueF] at hd
    have up := unk_place (W := W)
    obtain ⟨ps, a1, a2, a3, a4⟩ := I.rw
    obtain ⟨e0, he0⟩ := I.pre
    have hfl : (full W).length ≤ 8001 := by have := full_len W; omega
    simp only [wp, wx, wxx, first_unknown_w full_ne I.at]
    cases hu : unkN (full W) with
    | some u =>
      rw [hu] at up
      obtain ⟨j, u1, u2⟩ := up
      have his : ∀ (M : Mem) (z : Int), isF true (.v (.int z)) (.v .non) M = some (.v (.bl true), M) := fun M z => rfl
      have hix : ixF (.v (.ref M.length)) (.v (.int (u : Int))) M' = some (.v (.int (j : Int)), M') := by
        have hul : u < (plI 0 W).length := by
          rcases Nat.lt_or_ge u (plI 0 W).length with h | h
          · exact h
          · rw [List.getElem?_eq_none h] at u2; cases u2
        rw [List.getElem?_eq_getElem hul] at u2
        have u3 : (plI 0 W)[u] = j := by injection u2
        simp only [ixF, seqOf, I.pl, Option.bind_some, atI_nats _ _ hul, u3, Option.map_some]
      simp only [iD0, his, hix, wp, wx, wxx]
      refine ⟨rfl, ⟨bye _ j, ?_⟩⟩
      rw [he0, shut_v (by simp)]
      refine k2 j _ ?_
      unfold dueN
      rw [hd]
      simp only [u1]
    | none =>
      rw [hu] at up
      simp only at up
      have his : ∀ M : Mem, isF true (.v .non) (.v .non) M = some (.v (.bl false), M) := fun M => rfl
      simp only [iD0, his, len_ref a1, eq_int, wp, wx, wxx]
      by_cases hr : full W = []
      · have h0 : decide ((((ps.map D.ref).length : Nat) : Int) = 0) = true := by rw [hr] at a2; simpa using List.eq_nil_of_length_eq_zero a2
        simp only [h0, len_ref I.ln, wD_len, wp, wx, wxx]
        refine ⟨rfl, ⟨bye _ lines.length, ?_⟩⟩
        rw [he0, shut_v (by simp)]
        refine k2 lines.length _ ?_
        unfold dueN
        rw [hd]
        simp only [up, if_pos hr]
        have : 0 < lines.length := List.length_pos_iff.mpr hne
        rw [hWl, Nat.max_eq_right (by omega)]
      · have h0 : decide ((((ps.map D.ref).length : Nat) : Int) = 0) = false := by
          have : 0 < (full W).length := List.length_pos_iff.mpr hr
          simp; intro z; rw [z] at a2; simp at a2; omega
        have hk : ∀ r ∈ full W, ∀ w ∈ r, w ∈ headsN (full W) := fun r hr2 w hw => by
          unfold unkN at hu
          have := List.findIdx?_eq_none_iff.mp hu r hr2
          simp only [Bool.not_eq_eq_eq_not, Bool.not_false, List.all_eq_true] at this
          simpa using this w hw
        simp only [h0, machine_of_w full_ne hk I.at, wp, wx, wxx]
        rw [he0, kFn_va (by
          rw [lo_tup, loL_cons, loL_cons, loL_nil]
          exact ⟨by simp, by rw [lo_tup]; exact lo_wD _ _, trivial⟩)]
        refine k1 ?_
        unfold dueN
        rw [hd]
        simp only [up, if_neg hr]
noncomputable def _law_is_name_E1 (ρ : Env) (m : Mem) : Option (Out × Mem) := (eBin (inF false) (eVar 1) (eC (.str "abcdefghijklmnopqrstuvwxyz"))) ρ m
theorem w__law_is_name_E1 {ρ : Env} {M : Mem} {Q : PO2} : WE _law_is_name_E1 ρ M Q ↔ WE (eBin (inF false) (eVar 1) (eC (.str "abcdefghijklmnopqrstuvwxyz"))) ρ M Q := Iff.rfl
noncomputable def m__law_is_name : Fn := fnD 1 2
    (sRet (eAnd (eChain leF leF (eC (.int 1)) (eUn lenF (eVar 0)) (eC (.int 8))) (eUn allF (eComp (iE (eVar 0)) [1] (.nm 1) bYes _law_is_name_E1))))
noncomputable def _law_fault_E1 (ρ : Env) (m : Mem) : Option (Out × Mem) := (eBin ixF (eVar 2) (eC (.int 0))) ρ m
theorem w__law_fault_E1 {ρ : Env} {M : Mem} {Q : PO2} : WE _law_fault_E1 ρ M Q ↔ WE (eBin ixF (eVar 2) (eC (.int 0))) ρ M Q := Iff.rfl
noncomputable def _law_fault_E2 (ρ : Env) (m : Mem) : Option (Out × Mem) := (eCall m__law_is_name (aCons (eVar 3) aNil)) ρ m
theorem w__law_fault_E2 {ρ : Env} {M : Mem} {Q : PO2} : WE _law_fault_E2 ρ M Q ↔ WE (eCall m__law_is_name (aCons (eVar 3) aNil)) ρ M Q := Iff.rfl
noncomputable def m__law_fault : Fn := fnD 2 4
    (sSeq (sIf (bNot (bOf (eUn allF (eComp (iE (eVar 0)) [3] (.nm 3) bYes _law_fault_E2)))) (sRet (eC (.str "name"))) sNil)
    (sSeq (sIf (bOr (bOf (eBin ltF (eUn lenF (eVar 0)) (eC (.int 2)))) (bOr (bOf (eBin gtF (eUn lenF (eVar 0)) (eC (.int 7)))) (bAnd (bOf (eBin neEF (eVar 1) (eLst aNil))) (bOf (eBin neF (eUn lenF (eBin ixF (eVar 1) (eC (.int 0)))) (eUn lenF (eVar 0))))))) (sRet (eC (.str "count"))) sNil)
    (sSeq (sIf (bOf (eBin (inF false) (eBin ixF (eVar 0) (eC (.int 0))) (eComp (iE (eVar 1)) [2] (.nm 2) bYes _law_fault_E1))) (sRet (eC (.str "twice"))) sNil)
    (sRet (eIf (bOf (eBin gtF (eUn lenF (eVar 1)) (eC (.int 25)))) (eC (.str "many")) (eC (.str "")))))))
noncomputable def _law_due_C1 (ρ : Env) (m : Mem) : Option (Bool × Mem) := (bOf (eBin (inF true) (eVar 6) (eVar 2))) ρ m
theorem w__law_due_C1 {ρ : Env} {M : Mem} {Q : Bool → Mem → Prop} : WB _law_due_C1 ρ M Q ↔ WB (bOf (eBin (inF true) (eVar 6) (eVar 2))) ρ M Q := Iff.rfl
noncomputable def _law_due_E1 (ρ : Env) (m : Mem) : Option (Out × Mem) := (eVar 6) ρ m
theorem w__law_due_E1 {ρ : Env} {M : Mem} {Q : PO2} : WE _law_due_E1 ρ M Q ↔ WE (eVar 6) ρ M Q := Iff.rfl
noncomputable def _law_due_F1 (ρ : Env) (m : Mem) : Option R := (sIf (bOf (eBin neF (eComp (iE (eVar 4)) [6] (.nm 6) _law_due_C1 _law_due_E1) (eLst aNil))) (sRet (eTup (aCons (eVar 3) (aCons (eC (.str "room")) aNil)))) sNil) ρ m
theorem w__law_due_F1 {ρ : Env} {M : Mem} {Q : R → Prop} : WS _law_due_F1 ρ M Q ↔ WS (sIf (bOf (eBin neF (eComp (iE (eVar 4)) [6] (.nm 6) _law_due_C1 _law_due_E1) (eLst aNil))) (sRet (eTup (aCons (eVar 3) (aCons (eC (.str "room")) aNil)))) sNil) ρ M Q := Iff.rfl
noncomputable def _law_due_E2 (ρ : Env) (m : Mem) : Option (Out × Mem) := (eBin ixF (eVar 4) (eC (.int 0))) ρ m
theorem w__law_due_E2 {ρ : Env} {M : Mem} {Q : PO2} : WE _law_due_E2 ρ M Q ↔ WE (eBin ixF (eVar 4) (eC (.int 0))) ρ M Q := Iff.rfl
noncomputable def _law_due_F2 (ρ : Env) (m : Mem) : Option R := (sIf (bOf (eBin neF (eVar 4) (eLst aNil))) (sSeq (sSet 5 (eCall m__law_fault (aCons (eVar 4) (aCons (eVar 1) aNil))))
    (sSeq (sIf (bOf (eBin neF (eVar 5) (eC (.str "")))) (sRet (eTup (aCons (eVar 3) (aCons (eVar 5) aNil)))) sNil)
    (sDo (eMt1 "list" appF (eVar 1) (eVar 4))))) sNil) ρ m
theorem w__law_due_F2 {ρ : Env} {M : Mem} {Q : R → Prop} : WS _law_due_F2 ρ M Q ↔ WS (sIf (bOf (eBin neF (eVar 4) (eLst aNil))) (sSeq (sSet 5 (eCall m__law_fault (aCons (eVar 4) (aCons (eVar 1) aNil))))
    (sSeq (sIf (bOf (eBin neF (eVar 5) (eC (.str "")))) (sRet (eTup (aCons (eVar 3) (aCons (eVar 5) aNil)))) sNil)
    (sDo (eMt1 "list" appF (eVar 1) (eVar 4))))) sNil) ρ M Q := Iff.rfl
noncomputable def m__law_due : Fn := fnD 1 7
    (sSeq (sSet 1 (eLst aNil))
    (sSeq (sFor (iEnumE (eVar 0)) (gT (.tp [3, 4])) _law_due_F2)
    (sSeq (sSet 2 (eComp (iE (eVar 1)) [4] (.nm 4) bYes _law_due_E2))
    (sSeq (sFor (iEnumE (eVar 0)) (gT (.tp [3, 4])) _law_due_F1)
    (sSeq (sIf (bOf (eBin eqEF (eVar 1) (eLst aNil))) (sRet (eTup (aCons (eBin max2F (eC (.int 1)) (eUn lenF (eVar 0))) (aCons (eC (.str "none")) aNil)))) sNil)
    (sRet (eC .non)))))))
noncomputable def _law_told_E1 (ρ : Env) (m : Mem) : Option (Out × Mem) := (eMt1 "list" idxLF (eVar 2) (eVar 4)) ρ m
theorem w__law_told_E1 {ρ : Env} {M : Mem} {Q : PO2} : WE _law_told_E1 ρ M Q ↔ WE (eMt1 "list" idxLF (eVar 2) (eVar 4)) ρ M Q := Iff.rfl
noncomputable def _law_told_E2 (ρ : Env) (m : Mem) : Option (Out × Mem) := (eUn tupF (eComp (iE (eSl (eVar 3) (oSome (eC (.int 1))) oNone)) [4] (.nm 4) bYes _law_told_E1)) ρ m
theorem w__law_told_E2 {ρ : Env} {M : Mem} {Q : PO2} : WE _law_told_E2 ρ M Q ↔ WE (eUn tupF (eComp (iE (eSl (eVar 3) (oSome (eC (.int 1))) oNone)) [4] (.nm 4) bYes _law_told_E1)) ρ M Q := Iff.rfl
noncomputable def _law_told_E3 (ρ : Env) (m : Mem) : Option (Out × Mem) := (eBin ixF (eVar 3) (eC (.int 0))) ρ m
theorem w__law_told_E3 {ρ : Env} {M : Mem} {Q : PO2} : WE _law_told_E3 ρ M Q ↔ WE (eBin ixF (eVar 3) (eC (.int 0))) ρ M Q := Iff.rfl
noncomputable def _law_told_C1 (ρ : Env) (m : Mem) : Option (Bool × Mem) := (bOf (eBin neF (eVar 3) (eLst aNil))) ρ m
theorem w__law_told_C1 {ρ : Env} {M : Mem} {Q : Bool → Mem → Prop} : WB _law_told_C1 ρ M Q ↔ WB (bOf (eBin neF (eVar 3) (eLst aNil))) ρ M Q := Iff.rfl
noncomputable def _law_told_E4 (ρ : Env) (m : Mem) : Option (Out × Mem) := (eVar 3) ρ m
theorem w__law_told_E4 {ρ : Env} {M : Mem} {Q : PO2} : WE _law_told_E4 ρ M Q ↔ WE (eVar 3) ρ M Q := Iff.rfl
noncomputable def m__law_told : Fn := fnD 1 5
    (sSeq (sSet 1 (eComp (iE (eVar 0)) [3] (.nm 3) _law_told_C1 _law_told_E4))
    (sSeq (sSet 2 (eComp (iE (eVar 1)) [3] (.nm 3) bYes _law_told_E3))
    (sRet (eTup (aCons (eUn tupF (eComp (iE (eVar 1)) [3] (.nm 3) bYes _law_told_E2)) (aCons (eUn tupF (eVar 2)) aNil))))))
noncomputable def m__law_refused : Fn := fnD 1 3
    (sSeq (sSet 1 (eC .non))
    (sSeq (sTry (xDo (eCallX m_read_machine (aCons (eVar 0) aNil))) (sPair "NoMachine" "row" "word" 2 1))
    (sRet (eVar 1))))
/-! ### the law's own look at the rows -/
theorem lname_w {w : List Nat} (hl : w.length ≤ 90000) (M : Mem) : m__law_is_name [.str (txtS w)] M = some (.v (.bl (nameB w)), M) := by
  refine wo_eq ?_
  unfold m__law_is_name
  have lo : ∀ b : Bool, (D.bl b).lo M.length := by simp
  have abc : ("abcdefghijklmnopqrstuvwxyz" : Str) = txtS ltrs := by decide
  simp only [wp, wx, wf, Nat.reduceSub, txt_lenF hl, leF, cmp_int]
  by_cases h1 : 1 ≤ w.length
  · have h1' : decide ((1 : Int) ≤ (w.length : Int)) = true := decide_eq_true (by omega)
    simp only [h1', wp, wx, leF, cmp_int]
    by_cases h2 : w.length ≤ 8
    · have h2' : decide ((w.length : Int) ≤ 8) = true := decide_eq_true (by omega)
      simp only [h2', wp, wx, txt_src hl]
      refine wc_map (fun c => D.str (txtS [c])) (fun c => .bl (decide (c ∈ ltrs))) w (fun c hc => ?_) ?_
      · simp only [wp, wx, w__law_is_name_E1, abc, txt_in]
        exact ⟨rfl, rfl⟩
      · simp only [wp, wx, all_map]
        rw [kFn_v (lo _)]
        exact ⟨by simp [nameB, h1, h2], rfl⟩
    · have h2' : decide ((w.length : Int) ≤ 8) = false := decide_eq_false (by omega)
      simp only [h2', wp, wx]
      rw [kFn_v (lo _)]
      exact ⟨by simp [nameB, h2], rfl⟩
  · have h1' : decide ((1 : Int) ≤ (w.length : Int)) = false := decide_eq_false (by omega)
    simp only [h1', wp, wx]
    rw [kFn_v (lo _)]
    exact ⟨by simp [nameB, h1], rfl⟩
def sD : Option Str → D
  | none => .str ""
  | some s => .str s
theorem neE_ref {q : Nat} {xs : List D} {M : Mem} (h : M[q]? = some (.lst xs)) : neEF (.v (.ref q)) (.o (.lst [])) M = some (.v (.bl (!xs.isEmpty)), M) := by
  simp only [neEF, lstOf, h, Option.bind_some]
theorem neE_o {xs : List D} {M : Mem} : neEF (.o (.lst xs)) (.o (.lst [])) M = some (.v (.bl (!xs.isEmpty)), M) := rfl
theorem eqE_ref {q : Nat} {xs : List D} {M : Mem} (h : M[q]? = some (.lst xs)) : eqEF (.v (.ref q)) (.o (.lst [])) M = some (.v (.bl xs.isEmpty), M) := by
  simp only [eqEF, lstOf, h, Option.bind_some]
theorem okL_wD (n : Nat) {ws : List (List Nat)} (h : ∀ w ∈ ws, Asc w) : okL n (wD ws) = true := by
  induction ws with
  | nil => rfl
  | cons w ws ih =>
    show (okD n (.str (txtS w)) && okL n (wD ws)) = true
    rw [okD_txt (h w List.mem_cons_self), ih fun v hv => h v (List.mem_cons_of_mem _ hv)]; rfl
theorem ne_nil_wd {ws : List (List Nat)} (h : ∀ w ∈ ws, Asc w) : (okD 64 (.fl (wD ws)) = true ∧ okD 64 (.fl []) = true) ∧ (D.fl (wD ws)).eqb (.fl []) = ws.isEmpty := by
  refine ⟨⟨by rw [okD]; exact okL_wD 63 h, by simp [okD, okL]⟩, ?_⟩
  cases ws with
  | nil => simp [wD, D.eqb, eqbL]
  | cons a b => simp [wD, D.eqb, eqbL]
theorem neW_ref {q : Nat} {ws : List (List Nat)} {M : Mem} (h : ∀ w ∈ ws, Asc w) (e : M[q]? = some (.lst (wD ws))) : neF (.v (.ref q)) (.o (.lst [])) M = some (.v (.bl (!ws.isEmpty)), M) := by
  obtain ⟨h1, h2⟩ := ne_nil_wd h
  simp only [neF, form, e, Option.bind_some, if_pos h1, h2]
theorem neW_o {ws : List (List Nat)} {M : Mem} (h : ∀ w ∈ ws, Asc w) : neF (.o (.lst (wD ws))) (.o (.lst [])) M = some (.v (.bl (!ws.isEmpty)), M) := by
  obtain ⟨h1, h2⟩ := ne_nil_wd h
  simp only [neF, form, Option.bind_some, if_pos h1, h2]
theorem lfault_w {ws : List (List Nat)} {ahead : List (List (List Nat))} (h0 : 0 < ws.length) (hwl : ∀ w ∈ ws, w.length ≤ 9000) (han : ∀ r ∈ ahead, r ≠ []) {M : Mem} {qw qa : Nat} (hw : M[qw]? = some (.lst (wD ws))) (ha : RowsAt M qa ahead) : m__law_fault [.ref qw, .ref qa] M = some (.v (sD (faultN ws ahead)), M) := by
  refine wo_eq ?_
  unfold m__law_fault
  obtain ⟨ps, a1, a2, a3⟩ := ha.ex
  have lo : ∀ s : Str, (D.str s).lo M.length := by simp
  have lenw : lenF (.v (.ref qw)) M = some (.v (.int (ws.length : Int)), M) := by rw [len_ref hw, wD_len]
  have lena : lenF (.v (.ref qa)) M = some (.v (.int (ahead.length : Int)), M) := by rw [len_ref a1]; simp [a2]
  simp only [wp, wx, wf, Nat.reduceSub, src_ref hw]
  refine wc_mapL3 (fun w => D.str (txtS w)) (fun w => .bl (nameB w)) ws (chk_one hw) (fun w hw2 => ?_) ?_
  · simp only [wp, wx, w__law_fault_E2, lname_w (show w.length ≤ 90000 by have := hwl w hw2; omega)]
    exact ⟨rfl, rfl⟩
  simp only [wp, wx, all_map]
  cases hall : ws.all nameB with
  | false =>
    simp only [wp, wx, Bool.not_false]
    rw [kFn_v (lo _)]
    exact ⟨by simp [faultN, hall, sD], rfl⟩
  | true =>
    simp only [wp, wx, lenw, ltF, gtF, cmp_int, Bool.not_true]
    have hf : ¬ (ws.all nameB = false) := by rw [hall]; simp
    have bad : (¬ (1 ≤ ws.length - 1 ∧ ws.length - 1 ≤ 6) ∨ (0 < ahead.length ∧ ws.length ≠ (ahead.headD []).length)) → kFn M (kIs (sD (faultN ws ahead)) M) (.rt (.v (.str "count")) M) := fun hc => by
      rw [kFn_v (lo _)]
      exact ⟨by rw [faultN, if_neg hf, if_pos hc]; rfl, rfl⟩
    have rest : ¬ (¬ (1 ≤ ws.length - 1 ∧ ws.length - 1 ≤ 6) ∨ (0 < ahead.length ∧ ws.length ≠ (ahead.headD []).length)) → WS (sSeq (sIf (bOf (eBin (inF false) (eBin ixF (eVar 0) (eC (.int 0))) (eComp (iE (eVar 1)) [2] (.nm 2) bYes _law_fault_E1))) (sRet (eC (.str "twice"))) sNil) (sRet (eIf (bOf (eBin gtF (eUn lenF (eVar 1)) (eC (.int 25)))) (eC (.str "many")) (eC (.str ""))))) [some (.ref qw), some (.ref qa), none, none] M (kFn M (kIs (sD (faultN ws ahead)) M)) := fun hc => by
      have ix0 : ixF (.v (.ref qw)) (.v (.int 0)) M = some (.v (.str (txtS (ws.headD []))), M) := by
        cases ws with
        | nil => simp at h0
        | cons w ws => simp [ixF, seqOf, hw, wD, atI, ixN]
      simp only [wp, wx, ix0, src_ref a1]
      obtain ⟨hd1, hd2⟩ := RowsAt.heads a2 a3 han
      refine wc_invL (hdD M) (ps.map D.ref) (chk_one a1) (fun d hd => ?_) ?_
      · simp only [wp, wx, w__law_fault_E1, hd2 d hd]
        exact ⟨rfl, rfl⟩
      rw [hd1]
      have hin := in_wD (x := .o (.lst (wD (ahead.map fun r => r.headD [])))) (M := M) rfl (by intro z e; cases e) (ws.headD [])
      simp only [wp, wx, hin]
      by_cases ht : ws.headD [] ∈ ahead.map fun r => r.headD []
      · simp only [ht, decide_true, wp, wx]
        rw [kFn_v (lo _)]
        exact ⟨by rw [faultN, if_neg hf, if_neg hc, if_pos ht]; rfl, rfl⟩
      · simp only [ht, decide_false, wp, wx, lena, gtF, cmp_int]
        by_cases hm : 26 ≤ ahead.length
        · have hm' : decide ((25 : Int) < (ahead.length : Int)) = true := decide_eq_true (by omega)
          simp only [hm', wp, wx]
          rw [kFn_v (lo _)]
          exact ⟨by rw [faultN, if_neg hf, if_neg hc, if_neg ht, if_pos hm]; rfl, rfl⟩
        · have hm' : decide ((25 : Int) < (ahead.length : Int)) = false := decide_eq_false (by omega)
          simp only [hm', wp, wx]
          rw [kFn_v (lo _)]
          exact ⟨by rw [faultN, if_neg hf, if_neg hc, if_neg ht, if_neg hm]; rfl, rfl⟩
    by_cases c1 : 1 ≤ ws.length - 1
    · have c1' : decide ((ws.length : Int) < 2) = false := decide_eq_false (by omega)
      simp only [c1', wp, wx, lenw, gtF, cmp_int]
      by_cases c2 : ws.length - 1 ≤ 6
      · have c2' : decide ((7 : Int) < (ws.length : Int)) = false := decide_eq_false (by omega)
        simp only [c2', wp, wx, neE_ref a1]
        by_cases c3 : 0 < ahead.length
        · have hps : 0 < ps.length := by omega
          have c3' : (ps.map D.ref).isEmpty = false := by cases ps with
            | nil => simp at hps
            | cons p ps => rfl
          have ixa : ixF (.v (.ref qa)) (.v (.int 0)) M = some (.v (.ref ps[0]), M) := by
            simp only [ixF, seqOf, a1, Option.bind_some]
            cases ps with
            | nil => simp at hps
            | cons p ps => simp [atI, ixN]
          have hl0 : lenF (.v (.ref ps[0])) M = some (.v (.int ((ahead.headD []).length : Int)), M) := by
            rw [len_ref (a3 0 hps c3), wD_len]
            cases ahead with
            | nil => simp at c3
            | cons a ahead => rfl
          simp only [c3', wp, wx, ixa, hl0, lenw, ne_int, Bool.not_false]
          by_cases c4 : ws.length = (ahead.headD []).length
          · have c4' : decide (((ahead.headD []).length : Int) = (ws.length : Int)) = true := decide_eq_true (by omega)
            simp only [c4', Bool.not_true, wp, wx]
            simp only [wp, wx] at rest
            exact rest (by omega)
          · have c4' : decide (((ahead.headD []).length : Int) = (ws.length : Int)) = false := decide_eq_false (by omega)
            simp only [c4', Bool.not_false, wp, wx]
            exact bad (.inr ⟨c3, c4⟩)
        · have c3' : (ps.map D.ref).isEmpty = true := by cases ps with
            | nil => rfl
            | cons p ps => simp at a2; omega
          simp only [c3', Bool.not_true, wp, wx]
          simp only [wp, wx] at rest
          exact rest (by omega)
      · have c2' : decide ((7 : Int) < (ws.length : Int)) = true := decide_eq_true (by omega)
        simp only [c2', wp, wx]
        exact bad (by omega)
    · have c1' : decide ((ws.length : Int) < 2) = true := decide_eq_true (by omega)
      simp only [c1', wp, wx]
      exact bad (by omega)
def duD : Option (Nat × Str) → D
  | none => .non
  | some (i, f) => .tup [.int (i : Int), .str f]
theorem fault_txt {ws : List (List Nat)} {ahead : List (List (List Nat))} {f : Str} (h : faultN ws ahead = some f) : ∃ cs, f = txtS cs ∧ Asc cs ∧ cs ≠ [] := by
  have mk : ∀ (cs : List Nat), (cs.all fun c => decide (c < 1000)) = true → cs ≠ [] → f = txtS cs → ∃ cs, f = txtS cs ∧ Asc cs ∧ cs ≠ [] := fun cs h1 h2 h3 => ⟨cs, h3, fun c hc => by simpa using List.all_eq_true.mp h1 c hc, h2⟩
  unfold faultN at h
  split at h
  · cases h; exact mk [110, 97, 109, 101] (by decide) (by simp) (by decide)
  · split at h
    · cases h; exact mk [99, 111, 117, 110, 116] (by decide) (by simp) (by decide)
    · split at h
      · cases h; exact mk [116, 119, 105, 99, 101] (by decide) (by simp) (by decide)
      · split at h
        · cases h; exact mk [109, 97, 110, 121] (by decide) (by simp) (by decide)
        · cases h
theorem not_in_wD {x : Out} {ws : List (List Nat)} {M : Mem} (hx : seqOf x M = some (wD ws)) (hns : ∀ z, x ≠ .v (.str z)) (w : List Nat) : inF true (.v (.str (txtS w))) x M = some (.v (.bl (!decide (w ∈ ws))), M) := by
  have ha : (wD ws).all flatD = true := by rw [List.all_eq_true]; intro d hd; obtain ⟨v, _, rfl⟩ := List.mem_map.mp hd; rfl
  have hany : ((wD ws).any fun d => d.eqb (.str (txtS w))) = decide (w ∈ ws) := by
    rw [Bool.eq_iff_iff, List.any_eq_true, decide_eq_true_iff]
    constructor
    · rintro ⟨d, hd, e⟩
      obtain ⟨v, hv, rfl⟩ := List.mem_map.mp hd
      rw [eqb_txt, decide_eq_true_iff] at e
      exact e ▸ hv
    · intro h
      exact ⟨_, List.mem_map.mpr ⟨w, h, rfl⟩, by rw [eqb_txt]; simp⟩
  unfold inF
  split
  · rename_i z; exact absurd rfl (hns z)
  · simp only [form, Option.bind_some, hx, flatD, ha, and_self, if_true, hany, Bool.false_eq_true, if_false]
theorem unkB_flt (W : List Row) (r : Row) : (!(r.filter fun w => !decide (w ∈ headsN (full W))).isEmpty) = unkB W r := by
  unfold unkB
  rw [Bool.eq_iff_iff]
  simp
theorem ldue_w {W : List Row} (hl : W.length ≤ 8000) (hwl : ∀ r ∈ W, ∀ w ∈ r, Asc w ∧ w.length ≤ 9000) {M : Mem} {q : Nat} (hq : RowsAt M q W) : m__law_due [.ref q] M = some (.v (duD (dueN W)), M) := by
  refine wo_eq ?_
  unfold m__law_due
  obtain ⟨ps, a1, a2, a3⟩ := hq.ex
  have a1' : ∀ e, (M ++ e)[q]? = some (.lst (ps.map D.ref)) := fun e => get_app a1
  have tl : ∀ (i : Nat) (f : Str), (D.tup [.int (i : Int), .str f]).lo M.length := by intro i f; simp
  simp only [wp, wx, wf, Nat.reduceSub]
  simp only [enum_refs (a1' _), wp, wx]
  have rat : ∀ (qs : List Nat) (R : List Row), qs.length = R.length → (∀ j (h1 : j < qs.length) (h2 : j < R.length), M[qs[j]]? = some (.lst (wD R[j]))) → RowsAt (M ++ [Ob.lst (qs.map D.ref)]) M.length R := fun qs R h1 h2 => ⟨qs, get_end rfl, h1, fun j a b => get_app (h2 j a b)⟩
  refine wl_inv (fun i ρ M' => (∃ qs : List Nat, M' = M ++ [.lst (qs.map D.ref)] ∧ qs.length = (full (W.take i)).length ∧ ∀ j (h1 : j < qs.length) (h2 : j < (full (W.take i)).length), M[qs[j]]? = some (.lst (wD (full (W.take i))[j]))) ∧ dueF 0 [] W = dueF i (full (W.take i)) (W.drop i) ∧ ∃ x2 x3 x4 x5 x6, ρ = [some (.ref q), some (.ref M.length), x2, x3, x4, x5, x6]) ⟨⟨[], rfl, by simp [full], by simp⟩, by simp [full], _, _, _, _, _, rfl⟩ (fun i ρ M' _ j => by obtain ⟨⟨o, rfl, _⟩, _⟩ := j; exact chk_one (a1' _)) (fun i x ρ M' hx j => ?_) (fun ρ M' j => ?_)
  · obtain ⟨⟨qs, rfl, b2, b3⟩, hd, x2, x3, x4, x5, x6, rfl⟩ := j
    have hA := rat qs _ b2 b3
    rw [List.getElem?_map] at hx
    obtain ⟨pr, e1, rfl⟩ := Option.map_eq_some_iff.mp hx
    obtain ⟨hi, rfl⟩ := List.getElem?_eq_some_iff.mp e1
    have hi' : i < ps.length := by simpa using hi
    have hiW : i < W.length := by omega
    have ez : (ps.zipIdx)[i] = (ps[i], i) := by simp
    rw [ez]
    have hrow : (M ++ [Ob.lst (qs.map D.ref)])[ps[i]]? = some (.lst (wD W[i])) := get_app (a3 i hi' hiW)
    have htk : W.take (i + 1) = W.take i ++ [W[i]] := by rw [List.take_add_one, List.getElem?_eq_getElem hiW, Option.toList_some]
    have hsn := full_snoc (W.take i) W[i]
    rw [← htk] at hsn
    rw [List.drop_eq_getElem_cons hiW, dueF_cons] at hd
    have hasc : ∀ w ∈ W[i], Asc w := fun w hw => (hwl _ (List.getElem_mem hiW) w hw).1
    simp only [wp, wx, w__law_due_F2, neW_ref hasc hrow]
    by_cases hw : W[i] = []
    · have h0 : W[i].isEmpty = true := by rw [hw]; rfl
      rw [if_pos hw] at hsn hd
      simp only [h0, Bool.not_true, wp, wx]
      rw [hsn]
      exact ⟨⟨qs, rfl, b2, b3⟩, hd, _, _, _, _, _, rfl⟩
    · have h0 : W[i].isEmpty = false := by cases h : W[i] with
        | nil => exact absurd h hw
        | cons a b => rfl
      rw [if_neg hw] at hsn hd
      have hlf := lfault_w (List.length_pos_iff.mpr hw) (fun w hw => (hwl _ (List.getElem_mem hiW) w hw).2) full_ne hrow hA
      simp only [h0, Bool.not_false, wp, wx, hlf]
      have en : ("" : Str) = txtS [] := by decide
      have a0 : Asc [] := fun c hc => by simp at hc
      cases hf : faultN W[i] (full (W.take i)) with
      | some f =>
        rw [hf] at hd
        obtain ⟨cs, rfl, c1, c2⟩ := fault_txt hf
        rw [sD, en]
        simp only [wp, wx, ne_txt c1 a0, c2, decide_false, Bool.not_false]
        rw [kFn_va (tl i _)]
        refine ⟨?_, rfl⟩
        unfold dueN
        rw [hd]; rfl
      | none =>
        rw [hf] at hd
        have b1 : (M ++ [Ob.lst (qs.map D.ref)])[M.length]? = some (.lst (qs.map D.ref)) := get_end rfl
        have hql : (qs.map D.ref).length ≤ 90000 := by
          have := full_len (W.take i)
          simp at this ⊢; omega
        rw [sD, en]
        simp only [wp, wx, ne_txt a0 a0, decide_true, Bool.not_true, isT_ref b1, app_ref b1 hql]
        rw [hsn]
        refine ⟨⟨qs ++ [ps[i]], by rw [sm0]; simp, by simp [b2], fun j h1 h2 => ?_⟩, hd, _, _, _, _, _, rfl⟩
        by_cases hj : j < qs.length
        · have hjr : j < (full (W.take i)).length := by omega
          rw [List.getElem_append_left hj, List.getElem_append_left hjr]
          exact b3 j hj hjr
        · have hj' : j = qs.length := by simp at h1; omega
          subst hj'
          rw [List.getElem_append_right (Nat.le_refl _), List.getElem_append_right (by omega)]
          simp only [Nat.sub_self, List.getElem_cons_zero, b2]
          exact a3 i hi' hiW
  · obtain ⟨⟨qs, rfl, b2, b3⟩, hd, x2, x3, x4, x5, x6, rfl⟩ := j
    rw [show ((ps.zipIdx).map fun p => D.par [.int ((p.2 : Nat) : Int), .ref p.1]).length = W.length by simp [a2], List.take_length] at b2 b3 hd
    rw [List.drop_eq_nil_of_le (Nat.le_refl _), dueF] at hd
    have hA := rat qs _ b2 b3
    obtain ⟨hd1, hd2⟩ := RowsAt.heads (M := M ++ [Ob.lst (qs.map D.ref)]) b2 (fun j a b => get_app (b3 j a b)) full_ne
    have b1 : (M ++ [Ob.lst (qs.map D.ref)])[M.length]? = some (.lst (qs.map D.ref)) := get_end rfl
    simp only [wp, wx, src_ref b1]
    refine wc_invL (hdD (M ++ [Ob.lst (qs.map D.ref)])) (qs.map D.ref) (chk_one b1) (fun d hd => ?_) ?_
    · simp only [wp, wx, w__law_due_E2, hd2 d hd]
      exact ⟨rfl, rfl⟩
    rw [hd1, show ((full W).map fun r => r.headD []) = headsN (full W) from rfl]
    simp only [wp, wx]
    rw [aas, aco, ani]
    have hlen : (M ++ [Ob.lst (qs.map D.ref)]).length = M.length + 1 := by simp
    rw [hlen]
    have hg2 : (M ++ [Ob.lst (qs.map D.ref), Ob.lst (wD (headsN (full W)))])[M.length + 1]? = some (.lst (wD (headsN (full W)))) := by rw [gmk]; rfl
    have hg1 : (M ++ [Ob.lst (qs.map D.ref), Ob.lst (wD (headsN (full W)))])[M.length]? = some (.lst (qs.map D.ref)) := by rw [gm0]; rfl
    simp only [enum_refs (a1' _), wp, wx]
    refine wl_inv (fun i ρ M' => M' = M ++ [Ob.lst (qs.map D.ref), Ob.lst (wD (headsN (full W)))] ∧ (∀ j (hj : j < i) (hr : j < W.length), unkB W W[j] = false) ∧ ∃ x3 x4 x5 x6, ρ = [some (.ref q), some (.ref M.length), some (.ref (M.length + 1)), x3, x4, x5, x6]) ⟨rfl, fun j hj => by omega, _, _, _, _, rfl⟩ (fun i ρ M' _ j => by obtain ⟨rfl, _⟩ := j; exact chk_one (a1' _)) (fun i x ρ M' hx j => ?_) (fun ρ M' j => ?_)
    · obtain ⟨rfl, hall, x3, x4, x5, x6, rfl⟩ := j
      rw [List.getElem?_map] at hx
      obtain ⟨pr, e1, rfl⟩ := Option.map_eq_some_iff.mp hx
      obtain ⟨hi, rfl⟩ := List.getElem?_eq_some_iff.mp e1
      have hi' : i < ps.length := by simpa using hi
      have hiW : i < W.length := by omega
      have ez : (ps.zipIdx)[i] = (ps[i], i) := by simp
      rw [ez]
      have hrow : (M ++ [Ob.lst (qs.map D.ref), Ob.lst (wD (headsN (full W)))])[ps[i]]? = some (.lst (wD W[i])) := get_app (a3 i hi' hiW)
      simp only [wp, wx, w__law_due_F1, src_ref hrow]
      refine wc_fltL (fun w => D.str (txtS w)) (fun w => D.str (txtS w)) (fun w => !decide (w ∈ headsN (full W))) W[i] (chk_one hrow) (fun w hw => ?_) ?_
      · refine ⟨_, rfl, wb_eq ?_, fun _ => ?_⟩
        · simp only [wp, wx, w__law_due_C1, not_in_wD (x := .v (.ref (M.length + 1))) (M := M ++ [Ob.lst (qs.map D.ref), Ob.lst (wD (headsN (full W)))]) (ws := headsN (full W)) (by simp [seqOf, hg2]) (by intro z e; cases e) w]
        · simp only [wp, wx, w__law_due_E1]
          exact ⟨rfl, rfl⟩
      have hasc : ∀ w ∈ W[i].filter fun w => !decide (w ∈ headsN (full W)), Asc w := fun w hw => (hwl _ (List.getElem_mem hiW) w (List.mem_filter.mp hw).1).1
      rw [show ((W[i].filter fun w => !decide (w ∈ headsN (full W))).map fun w => D.str (txtS w)) = wD (W[i].filter fun w => !decide (w ∈ headsN (full W))) from rfl]
      simp only [wp, wx, neW_o hasc, unkB_flt]
      cases hu : unkB W W[i] with
      | false =>
        simp only [wp, wx]
        refine ⟨fun j hj hr => ?_, _, _, _, _, rfl⟩
        by_cases hji : j = i
        · subst hji; exact hu
        · exact hall j (by omega) hr
      | true =>
        simp only [wp, wx]
        rw [kFn_va (tl i _)]
        refine ⟨?_, rfl⟩
        have : dueU W = some i := findIdx_take _ W i hiW (fun j hj => hall j hj (by omega)) hu
        unfold dueN
        rw [hd]
        simp only [this]; rfl
    · obtain ⟨rfl, hall, x3, x4, x5, x6, rfl⟩ := j
      have hu : dueU W = none := by
        unfold dueU
        rw [List.findIdx?_eq_none_iff]
        intro r hr
        obtain ⟨j, hj, rfl⟩ := List.getElem_of_mem hr
        exact hall j (by simp [a2]; omega) hj
      simp only [wp, wx, eqE_ref hg1]
      have hdu : dueN W = if full W = [] then some (max 1 W.length, ("none" : Str)) else none := by
        unfold dueN
        rw [hd]
        simp only [hu]
      by_cases hr : full W = []
      · have h0 : (qs.map D.ref).isEmpty = true := by rw [hr] at b2; rw [List.eq_nil_of_length_eq_zero b2]; rfl
        have hmx : max2F (.v (.int 1)) (.v (.int (W.length : Int))) (M ++ [Ob.lst (qs.map D.ref), Ob.lst (wD (headsN (full W)))]) = some (.v (.int ((max 1 W.length : Nat) : Int)), M ++ [Ob.lst (qs.map D.ref), Ob.lst (wD (headsN (full W)))]) := by
          have : (if (W.length : Int) > 1 then (W.length : Int) else 1) = ((max 1 W.length : Nat) : Int) := by split <;> omega
          simp only [max2F, this]
        have hln : lenF (.v (.ref q)) (M ++ [Ob.lst (qs.map D.ref), Ob.lst (wD (headsN (full W)))]) = some (.v (.int (W.length : Int)), M ++ [Ob.lst (qs.map D.ref), Ob.lst (wD (headsN (full W)))]) := by
          rw [len_ref (a1' _)]; simp [a2]
        simp only [h0, wp, wx, hln, hmx]
        rw [kFn_va (tl _ _)]
        refine ⟨?_, rfl⟩
        rw [hdu, if_pos hr]; rfl
      · have h0 : (qs.map D.ref).isEmpty = false := by
          cases qs with
          | nil => exact absurd (List.eq_nil_of_length_eq_zero (by simpa using b2.symm)) hr
          | cons a b => rfl
        simp only [h0, wp, wx]
        rw [kFn_va (by simp)]
        refine ⟨?_, rfl⟩
        rw [hdu, if_neg hr]; rfl
theorem lrefused_w {t : List Nat} (ht : Asc t) (hl : t.length ≤ 8000) (M : Mem) : m__law_refused [.str (txtS t)] M = some (.v (duD (dueN (rowsX t))), M) := by
  refine wo_eq ?_
  unfold m__law_refused
  simp only [wp, wx, wf, wxx, Nat.reduceSub]
  refine read_x ht hl (fun h => ?_) fun i f h => ?_
  · simp only [wp, wx, wxx]
    rw [kFn_v (by simp), h]
    exact ⟨rfl, rfl⟩
  · simp only [wp, wx, wxx]
    refine ⟨_, rfl, ?_⟩
    simp only [wp, wx, wxx]
    rw [kFn_v (by simp), h]
    exact ⟨rfl, rfl⟩
theorem idx_wD {M : Mem} {q : Nat} {ws : List (List Nat)} (h : M[q]? = some (.lst (wD ws))) (ha : ∀ w ∈ ws, Asc w) {w : List Nat} (hw : w ∈ ws) : idxLF (.v (.ref q)) (.v (.str (txtS w))) M = some (.v (.int ((ws.idxOf w : Nat) : Int)), M) := by
  have h1 := idx_txt hw M
  have hf : (wD ws).all flatD = true := by rw [List.all_eq_true]; intro d hd; obtain ⟨v, _, rfl⟩ := List.mem_map.mp hd; rfl
  have hc : okL 63 (wD ws) = true ∧ okD 64 (.str (txtS w)) = true := ⟨okL_wD 63 ha, okD_txt (ha w hw) 64⟩
  simp only [idxTF, form, Option.bind_some, flatD, hf, and_self, if_true] at h1
  simp only [idxLF, lstOf, h, Option.bind_some, if_pos hc]
  exact h1
theorem ltold_w {W : List Row} (hasc : ∀ r ∈ W, ∀ w ∈ r, Asc w) (hk : ∀ r ∈ full W, ∀ w ∈ r, w ∈ headsN (full W)) {M : Mem} {q : Nat} (hq : RowsAt M q W) : m__law_told [.ref q] M = some (.v (.tup [tM (mofN (full W)), .tup (wD (headsN (full W)))]), M) := by
  refine wo_eq ?_
  unfold m__law_told
  obtain ⟨ps, a1, a2, a3⟩ := hq.ex
  have hz1 : (ps.zip W).map Prod.fst = ps := List.map_fst_zip (by omega)
  have hz2 : (ps.zip W).map Prod.snd = W := List.map_snd_zip (by omega)
  have hz3 : ∀ z ∈ ps.zip W, M[z.1]? = some (.lst (wD z.2)) := fun z hz => by
    obtain ⟨i, hi, rfl⟩ := List.getElem_of_mem hz
    simp only [List.length_zip] at hi
    simp only [List.getElem_zip]
    exact a3 i (by omega) (by omega)
  have hz4 : ∀ z ∈ ps.zip W, z.2 ∈ W := fun z hz => (List.of_mem_zip hz).2
  generalize hZ : ps.zip W = Z at hz1 hz2 hz3 hz4
  simp only [wp, wx, wf, Nat.reduceSub, src_ref a1]
  rw [show ps.map D.ref = Z.map (fun z => D.ref z.1) by rw [← hz1, List.map_map]; rfl] at a1 ⊢
  refine wc_fltL (fun z => D.ref z.1) (fun z => D.ref z.1) (fun z => !z.2.isEmpty) Z (chk_one a1) (fun z hz => ?_) ?_
  · refine ⟨_, rfl, wb_eq ?_, fun _ => ?_⟩
    · simp only [wp, wx, w__law_told_C1, neW_ref (fun w hw => hasc _ (hz4 z hz) w hw) (hz3 z hz)]
    · simp only [wp, wx, w__law_told_E4]
      exact ⟨rfl, rfl⟩
  have hF : (Z.filter fun z => !z.2.isEmpty).map Prod.snd = full W := by
    unfold full
    rw [← hz2, List.filter_map]
    congr 1
    apply List.filter_congr
    intro z _
    cases h : z.2 with
    | nil => simp [h]
    | cons a b => simp [h]
  have hz3' : ∀ z ∈ Z.filter fun z => !z.2.isEmpty, M[z.1]? = some (.lst (wD z.2)) := fun z hz => hz3 z (List.mem_filter.mp hz).1
  generalize hY : Z.filter (fun z => !z.2.isEmpty) = Y at hF hz3'
  simp only [wp, wx]
  have hb : (M ++ [Ob.lst (Y.map fun z => D.ref z.1)])[M.length]? = some (.lst ((Y.map Prod.fst).map D.ref)) := by rw [List.map_map]; exact get_end rfl
  have hr : ∀ i (h1 : i < (Y.map Prod.fst).length) (h2 : i < (full W).length), (M ++ [Ob.lst (Y.map fun z => D.ref z.1)])[(Y.map Prod.fst)[i]]? = some (.lst (wD (full W)[i])) := fun i h1 h2 => by
    have hi : i < Y.length := by simpa using h1
    have := hz3' Y[i] (List.getElem_mem hi)
    simp only [← hF, List.getElem_map]
    exact get_app this
  have hl : (Y.map Prod.fst).length = (full W).length := by rw [← hF]; simp
  generalize hps : Y.map Prod.fst = qs at hb hr hl
  generalize hM1 : M ++ [Ob.lst (Y.map fun z => D.ref z.1)] = M1 at hb hr
  obtain ⟨hd1, hd2⟩ := RowsAt.heads hl hr full_ne
  simp only [src_ref hb, wp, wx]
  refine wc_invL (hdD M1) (qs.map D.ref) (chk_one hb) (fun d hd => ?_) ?_
  · simp only [wp, wx, w__law_told_E3, hd2 d hd]
    exact ⟨rfl, rfl⟩
  rw [hd1, show ((full W).map fun r => r.headD []) = headsN (full W) from rfl]
  simp only [wp, wx]
  have hb2 : (M1 ++ [Ob.lst (wD (headsN (full W)))])[M.length]? = some (.lst (qs.map D.ref)) := get_app hb
  have hh : (M1 ++ [Ob.lst (wD (headsN (full W)))])[M1.length]? = some (.lst (wD (headsN (full W)))) := get_end rfl
  have hha : ∀ w ∈ headsN (full W), Asc w := fun w hw => by
    obtain ⟨r, hr, rfl⟩ := List.mem_map.mp hw
    have hn := full_ne r hr
    have hm := (List.mem_filter.mp hr).1
    cases r with
    | nil => exact absurd rfl hn
    | cons a b => exact hasc _ hm a List.mem_cons_self
  simp only [src_ref hb2, wp, wx]
  refine wc_inv (fun i acc M' => M' = M1 ++ [Ob.lst (wD (headsN (full W)))] ∧ acc = ((mofN (full W)).take i).map tN) ⟨rfl, by simp⟩ (fun _ _ _ _ j => by rw [j.1]; exact chk_one hb2) (fun i x acc M' hx j => ?_) (fun acc M' j => ?_)
  · obtain ⟨rfl, rfl⟩ := j
    rw [List.getElem?_map] at hx
    obtain ⟨p, e1, rfl⟩ := Option.map_eq_some_iff.mp hx
    obtain ⟨hi, rfl⟩ := List.getElem?_eq_some_iff.mp e1
    have hir : i < (full W).length := by omega
    have hrow : (M1 ++ [Ob.lst (wD (headsN (full W)))])[qs[i]]? = some (.lst (wD (full W)[i])) := get_app (hr i hi hir)
    have esl : slF (.v (.ref qs[i])) (some 1) none (M1 ++ [Ob.lst (wD (headsN (full W)))]) = some (.o (.lst (wD (full W)[i].tail)), M1 ++ [Ob.lst (wD (headsN (full W)))]) := by
      rw [sl_ref hrow, cut_from (by decide)]
      have : ((1 : Int)).toNat = 1 := rfl
      rw [this]
      simp [wD, List.map_tail, ← List.drop_one, List.map_drop]
    simp only [wc, wp, wx, w__law_told_E2, esl, src_ol]
    refine wc_map (fun w => D.str (txtS w)) (fun w => .int (((headsN (full W)).idxOf w : Nat) : Int)) (full W)[i].tail (fun w hw => ?_) ?_
    · have hm : w ∈ headsN (full W) := hk (full W)[i] (List.getElem_mem hir) w (List.mem_of_mem_tail hw)
      simp only [wp, wx, w__law_told_E1, isT_ref hh, idx_wD hh hha hm]
      exact ⟨rfl, rfl⟩
    · simp only [wc, wp, wx, tup_ol]
      have hil : i < (mofN (full W)).length := by simpa [mofN] using hir
      rw [List.take_add_one, List.getElem?_eq_getElem hil, Option.toList_some, List.map_append]
      simp [mofN, tN, nats, Function.comp_def]
  · obtain ⟨rfl, rfl⟩ := j
    have hl2 : (qs.map D.ref).length = (mofN (full W)).length := by simp [mofN, hl]
    rw [hl2, List.take_length]
    simp only [wp, wx, tup_ol, tup_ref hh]
    rw [← hM1, aas]
    rw [kFn_va (d := .tup [.tup ((mofN (full W)).map tN), .tup (wD (headsN (full W)))]) (by
      rw [lo_tup, loL_cons, loL_cons, loL_nil]
      exact ⟨by show D.lo _ (tM (mofN (full W))); simp, by rw [lo_tup]; exact lo_wD _ _, trivial⟩)]
    exact ⟨rfl, rfl⟩
noncomputable def m__law_spoilt : Fn := fnD 2 8
    (sSeq (sIf (bOf (eBin eqEF (eVar 1) (eLst aNil))) (sRet (eLst (aCons (eLst (aCons (eC (.str "a")) aNil)) aNil))) sNil)
    (sSeq (sSet 2 (eCall m__law_next (aCons (eVar 0) (aCons (eUn lenF (eVar 1)) aNil))))
    (sSeq (sSet 3 (eUn listF (eBin ixF (eVar 1) (eVar 2))))
    (sSeq (sSet 4 (eCall m__law_next (aCons (eVar 0) (aCons (eBin addF (eUn lenF (eVar 3)) (eC (.int 1))) aNil))))
    (sSeq (sSet 5 (eSl (eBin ixF (eVar 1) (eCall m__law_next (aCons (eVar 0) (aCons (eUn lenF (eVar 1)) aNil)))) oNone (oSome (eC (.int 1)))))
    (sSeq (sSet 6 (eBin ixF (eLst (aCons (eC (.str "A")) (aCons (eC (.str "a1")) (aCons (eC (.str "abcdefghi")) (aCons (eC (.str "-")) (aCons (eC (.str "a.b")) (aCons (eC (.str "freshly")) (aCons (eC (.str "more")) (aCons (eC (.str "a")) aNil))))))))) (eCall m__law_next (aCons (eVar 0) (aCons (eC (.int 8)) aNil)))))
    (sSeq (sSet 7 (eCall m__law_next (aCons (eVar 0) (aCons (eC (.int 9)) aNil))))
    (sSeq (sIf (bOf (eBin ltF (eVar 7) (eC (.int 3)))) (sSet 3 (eBin addF (eBin addF (eSl (eVar 3) oNone (oSome (eVar 4))) (eBin ixF (eLst (aCons (eLst (aCons (eVar 6) aNil)) (aCons (eVar 5) (aCons (eLst aNil) aNil)))) (eVar 7))) (eSl (eVar 3) (oSome (eBin addF (eVar 4) (eC (.int 1)))) oNone))) (sIf (bOf (eBin ltF (eVar 7) (eC (.int 5)))) (sSet 3 (eBin addF (eBin addF (eSl (eVar 3) oNone (oSome (eVar 4))) (eLst (aCons (eVar 6) aNil))) (eSl (eVar 3) (oSome (eVar 4)) oNone))) (sIf (bOf (eBin eqF (eVar 7) (eC (.int 5)))) (sRet (eBin addF (eSl (eVar 1) oNone (oSome (eVar 2))) (eSl (eVar 1) (oSome (eBin addF (eVar 2) (eC (.int 1)))) oNone))) (sIf (bOf (eBin eqF (eVar 7) (eC (.int 6)))) (sRet (eBin addF (eBin addF (eSl (eVar 1) oNone (oSome (eVar 2))) (eLst (aCons (eBin ixF (eVar 1) (eVar 2)) aNil))) (eSl (eVar 1) (oSome (eVar 2)) oNone))) (sIf (bOf (eBin eqF (eVar 7) (eC (.int 7)))) (sRet (eBin addF (eBin addF (eSl (eVar 1) oNone (oSome (eVar 2))) (eLst (aCons (eLst aNil) aNil))) (eSl (eVar 1) (oSome (eVar 2)) oNone))) (sRet (eBin addF (eVar 1) (eLst (aCons (eBin addF (eLst (aCons (eC (.str "freshly")) aNil)) (eSl (eVar 3) (oSome (eC (.int 1))) oNone)) aNil)))))))))
    (sRet (eBin addF (eBin addF (eSl (eVar 1) oNone (oSome (eVar 2))) (eLst (aCons (eVar 3) aNil))) (eSl (eVar 1) (oSome (eBin addF (eVar 2) (eC (.int 1)))) oNone)))))))))))
/-! ### rows spoilt -/
def okW (w : List Nat) : Prop := 32 ∉ w ∧ 10 ∉ w ∧ w ≠ [] ∧ Asc w ∧ w.length ≤ 9
def okR (b : Nat) (ws : List (List Nat)) : Prop := ws.length ≤ b ∧ ∀ w ∈ ws, okW w
/-- what lies from lo on is kept -/
def KpW (lo : Nat) (M M' : Mem) : Prop := ∀ (i : Nat) (o : Ob), lo ≤ i → M[i]? = some o → M'[i]? = some o
theorem KpW.app {lo : Nat} {M : Mem} (e : Mem) : KpW lo M (M ++ e) := fun i o _ h => get_app h
theorem KpW.fr {lo : Nat} {ab : List Nat} {M M' : Mem} (hab : ∀ i ∈ ab, i < lo) (f : Fr ab M M') : KpW lo M M' := fun i o hi h => by
  rw [f.2 i fun z => absurd (hab i z) (by omega)]; exact h
def RwA (lo b : Nat) (M : Mem) (d : D) : Prop := ∃ p ws, d = .ref p ∧ lo ≤ p ∧ M[p]? = some (.lst (wD ws)) ∧ okR b ws
theorem RwA.kp {lo b : Nat} {M M' : Mem} {d : D} (h : RwA lo b M d) (k : KpW lo M M') : RwA lo b M' d := by
  obtain ⟨p, ws, h1, h2, h3, h4⟩ := h
  exact ⟨p, ws, h1, h2, k p _ h2 h3, h4⟩
def RwL (lo b n : Nat) (M : Mem) (xs : List D) : Prop := xs.length ≤ n ∧ ∀ d ∈ xs, RwA lo b M d
theorem RwL.kp {lo b n : Nat} {M M' : Mem} {xs : List D} (h : RwL lo b n M xs) (k : KpW lo M M') : RwL lo b n M' xs := ⟨h.1, fun d hd => (h.2 d hd).kp k⟩
theorem RwA.up {lo b c : Nat} {M : Mem} {d : D} (h : RwA lo b M d) (hc : b ≤ c) : RwA lo c M d := by
  obtain ⟨p, ws, h1, h2, h3, h4⟩ := h
  exact ⟨p, ws, h1, h2, h3, Nat.le_trans h4.1 hc, h4.2⟩
theorem RwL.rows {lo b n : Nat} {M : Mem} : ∀ {xs : List D}, (∀ d ∈ xs, RwA lo b M d) → ∃ (ps : List Nat) (W : List Row), xs = ps.map D.ref ∧ ps.length = W.length ∧ (∀ i (h1 : i < ps.length) (h2 : i < W.length), M[ps[i]]? = some (.lst (wD W[i]))) ∧ ∀ r ∈ W, okR b r
  | [], _ => ⟨[], [], rfl, rfl, by simp, by simp⟩
  | d :: xs, h => by
    obtain ⟨ps, W, h1, h2, h3, h4⟩ := RwL.rows (n := n) fun e he => h e (List.mem_cons_of_mem _ he)
    obtain ⟨p, ws, e1, e2, e3, e4⟩ := h d List.mem_cons_self
    refine ⟨p :: ps, ws :: W, by rw [h1, e1]; rfl, by simp [h2], fun i a b => ?_, fun r hr => ?_⟩
    · cases i with
      | zero => exact e3
      | succ i => exact h3 i (by simpa using a) (by simpa using b)
    · rcases List.mem_cons.mp hr with rfl | hr
      · exact e4
      · exact h4 r hr
theorem kFnRows {st : D} {ab : List Nat} {S : Mem → Prop} {nx : Fn} (g : Gen st ab S nx) {lo b n : Nat} {M M' : Mem} {xs : List D} {K : PO2} (L : Loc ab S M M') (h : RwL lo b n M' xs) (k : ∀ M1, Loc ab S M M1 → RwL lo b n M1 xs → K (.o (.lst xs)) M1) : Q.kFn M K (.rt (.o (.lst xs)) M') := by
  by_cases hl : loL M.length xs
  · obtain ⟨M1, e, rfl, s1, f1⟩ := L.split g
    rw [kFn_rt, g.shutO (b := .lst xs) f1 s1 hl]
    refine k M1 ((Loc.new L.s0).step g s1 f1).1 ⟨h.1, fun d hd => ?_⟩
    obtain ⟨p, ws, e1, e2, e3, e4⟩ := h.2 d hd
    refine ⟨p, ws, e1, e2, ?_, e4⟩
    have hp : p < M.length := by
      have := (loL_iff M.length xs).mp hl d hd
      rw [e1] at this
      simpa using this
    rw [List.getElem?_append_left (by rw [f1.1]; exact hp)] at e3
    exact e3
  · obtain ⟨M1, e, rfl, s1, f1⟩ := L.split g
    rw [kFn_rt]
    unfold Q.shut
    rw [if_pos (g.okM f1 s1 e)]
    have : ¬ Ob.lo M.length (.lst xs) := hl
    simp only [if_neg this]
    exact k _ L h
theorem add_lst {xs ys : List D} {M : Mem} (h : xs.length + ys.length ≤ 90000) : addF (.o (.lst xs)) (.o (.lst ys)) M = some (.o (.lst (xs ++ ys)), M) := add_ol h M
theorem cut_nat {xs : List D} (k : Nat) : cutD xs none (some (k : Int)) = xs.take k := by rw [cut_to (by omega)]; simp
theorem cut_natF {xs : List D} (k : Nat) : cutD xs (some (k : Int)) none = xs.drop k := by rw [cut_from (by omega)]; simp
theorem list_wD {M : Mem} {p : Nat} {ws : List (List Nat)} (h : M[p]? = some (.lst (wD ws))) : listF (.v (.ref p)) M = some (.o (.lst (wD ws)), M) := by simp [listF, seqOf, h]
def okWB (w : List Nat) : Bool := !w.contains 32 && (!w.contains 10 && (!w.isEmpty && ((w.all fun c => decide (c < 1000)) && decide (w.length ≤ 9))))
theorem okW_of {w : List Nat} (h : okWB w = true) : okW w := by
  simp only [okWB, Bool.and_eq_true, Bool.not_eq_true', List.contains_eq_mem, decide_eq_false_iff_not, List.isEmpty_eq_false_iff, List.all_eq_true, decide_eq_true_eq] at h
  exact ⟨h.1, h.2.1, h.2.2.1, h.2.2.2.1, h.2.2.2.2⟩
def odds : List D := [.str "A", .str "a1", .str "abcdefghi", .str "-", .str "a.b", .str "freshly", .str "more", .str "a"]
theorem odds_ok : ∀ d ∈ odds, ∃ w, d = .str (txtS w) ∧ okW w := by
  intro d hd
  simp only [odds, List.mem_cons, List.not_mem_nil, or_false] at hd
  rcases hd with rfl | rfl | rfl | rfl | rfl | rfl | rfl | rfl
  · exact ⟨[65], by congr 1, okW_of (by decide)⟩
  · exact ⟨[97, 49], by congr 1, okW_of (by decide)⟩
  · exact ⟨[97, 98, 99, 100, 101, 102, 103, 104, 105], by congr 1, okW_of (by decide)⟩
  · exact ⟨[45], by congr 1, okW_of (by decide)⟩
  · exact ⟨[97, 46, 98], by congr 1, okW_of (by decide)⟩
  · exact ⟨[102, 114, 101, 115, 104, 108, 121], by congr 1, okW_of (by decide)⟩
  · exact ⟨[109, 111, 114, 101], by congr 1, okW_of (by decide)⟩
  · exact ⟨[97], by congr 1, okW_of (by decide)⟩
theorem lspoilt_w {st : D} {ab : List Nat} {S : Mem → Prop} (g : Gen st ab S m__law_next) {lo b n : Nat} (hab : ∀ i ∈ ab, i < lo) (hb : b ≤ 100) (hn : n ≤ 1000) {M : Mem} (hlo : lo ≤ M.length) (h : S M) {q : Nat} {xs : List D} (hq : M[q]? = some (.lst xs)) (hql : lo ≤ q) (hx : RwL lo b n M xs) {K : PO2}
    (k : ∀ ys M', Loc ab S M M' → RwL lo (b + 1) (n + 1) M' ys → K (.o (.lst ys)) M') : WO (m__law_spoilt [st, .ref q] M) K := by
  unfold m__law_spoilt
  have L0 : Loc ab S M M := Loc.new h
  simp only [wp, wx, wf, Nat.reduceSub, eqE_ref hq]
  by_cases hne : xs = []
  · subst hne
    simp only [List.isEmpty_nil, wp, wx]
    have e1 : ("a" : Str) = txtS [97] := by decide
    refine kFnRows g (lo := lo) (b := b + 1) (n := n + 1) (L0.app g _) ⟨by simp, fun d hd => ?_⟩ (k _)
    simp only [List.mem_singleton] at hd
    subst hd
    exact ⟨_, [[97]], rfl, hlo, by rw [e1]; exact get_end rfl, by simp, fun w hw => by simp at hw; subst hw; exact okW_of (by decide)⟩
  have h0 : xs.isEmpty = false := by simpa using hne
  have hpos : 0 < xs.length := List.length_pos_iff.mpr hne
  have hxl := hx.1
  simp only [h0, wp, wx, len_ref hq]
  refine g.w L0.s hpos (by omega) fun at_ M1 hat s1 f1 => ?_
  have L1 := (L0.step g s1 f1).1
  have k1 : KpW lo M M1 := KpW.fr hab f1
  have hq1 := k1 q _ hql hq
  have hx1 := hx.kp k1
  obtain ⟨p, ws, ep, hp, gp, ow⟩ := hx1.2 xs[at_] (List.getElem_mem hat)
  have ixat : ∀ (M' : Mem) (i : Nat) (hi : i < xs.length), M'[q]? = some (.lst xs) → ixF (.v (.ref q)) (.v (.int (i : Int))) M' = some (.v xs[i], M') := fun M' i hi hg => by
    simp only [ixF, seqOf, hg, Option.bind_some, atI_get xs i hi, Option.map_some]
  simp only [wp, wx, ixat M1 at_ hat hq1, ep, list_wD gp]
  have hM1 : lo ≤ M1.length := by have := L1.le; omega
  have g3 : (M1 ++ [Ob.lst (wD ws)])[M1.length]? = some (.lst (wD ws)) := get_end rfl
  have L2 := L1.app g [Ob.lst (wD ws)]
  have k2 : KpW lo M1 (M1 ++ [Ob.lst (wD ws)]) := KpW.app _
  have hq2 := k2 q _ hql hq1
  have hx2 := hx1.kp k2
  generalize M1 ++ [Ob.lst (wD ws)] = M2 at g3 L2 k2 hq2 hx2
  generalize M1.length = p3 at hM1 g3
  have hwl := ow.1
  simp only [len_ref g3, wD_len, wp, wx, add_int]
  rw [show (ws.length : Int) + 1 = ((ws.length + 1 : Nat) : Int) by omega]
  refine g.w L2.s (by omega) (by omega) fun spot M3 hspot s3 f3 => ?_
  have L3 := (L2.step g s3 f3).1
  have k3 : KpW lo M2 M3 := KpW.fr hab f3
  have hq3 := k3 q _ hql hq2
  have g33 := k3 p3 _ hM1 g3
  have hx3 := hx2.kp k3
  simp only [wp, wx, len_ref hq3]
  refine g.w L3.s hpos (by omega) fun oth M4 hoth s4 f4 => ?_
  have L4 := (L3.step g s4 f4).1
  have k4 : KpW lo M3 M4 := KpW.fr hab f4
  have hq4 := k4 q _ hql hq3
  have g34 := k4 p3 _ hM1 g33
  have hx4 := hx3.kp k4
  obtain ⟨p', wo, ep', hp', gp', oo⟩ := hx4.2 xs[oth] (List.getElem_mem hoth)
  simp only [wp, wx, ixat M4 oth hoth hq4, ep', sl_ref gp', cut_to (show (0 : Int) ≤ 1 by omega)]
  rw [show (wD wo).take (1 : Int).toNat = wD (wo.take 1) by simp [wD]]
  have hM4 : lo ≤ M4.length := by have := L4.le; omega
  have g5 : (M4 ++ [Ob.lst (wD (wo.take 1))])[M4.length]? = some (.lst (wD (wo.take 1))) := get_end rfl
  have L5 := L4.app g [Ob.lst (wD (wo.take 1))]
  have k5 : KpW lo M4 (M4 ++ [Ob.lst (wD (wo.take 1))]) := KpW.app _
  have hq5 := k5 q _ hql hq4
  have hx5 := hx4.kp k5
  have g35 := k5 p3 _ hM1 g34
  generalize M4 ++ [Ob.lst (wD (wo.take 1))] = M5 at g5 L5 k5 hq5 hx5 g35
  generalize M4.length = p5 at hM4 g5
  refine ⟨fits_of (by simp), ?_⟩
  refine g.w L5.s (n := 8) (by omega) (by omega) fun od M6 hod s6 f6 => ?_
  have L6 := (L5.step g s6 f6).1
  have k6 : KpW lo M5 M6 := KpW.fr hab f6
  have hodl : od < odds.length := by show od < 8; exact hod
  obtain ⟨wd, ewd, owd⟩ := odds_ok odds[od] (List.getElem_mem hodl)
  have ixo : ixF (.o (.lst odds)) (.v (.int (od : Int))) M6 = some (.v (.str (txtS wd)), M6) := by
    simp only [ixF, seqOf, Option.bind_some, atI_get odds od hodl, Option.map_some, ewd]
  unfold odds at ixo
  simp only [wp, wx, ixo]
  have hq6 := k6 q _ hql hq5
  have hx6 := hx5.kp k6
  have g36 := k6 p3 _ hM1 g35
  have g56 := k6 p5 _ hM4 g5
  refine g.w L6.s (n := 9) (by omega) (by omega) fun way M7 hway s7 f7 => ?_
  have L7 := (L6.step g s7 f7).1
  have k7 : KpW lo M6 M7 := KpW.fr hab f7
  have hq7 := k7 q _ hql hq6
  have hx7 := hx6.kp k7
  have g37 := k7 p3 _ hM1 g36
  have g57 := k7 p5 _ hM4 g56
  have hM7 : M.length ≤ M7.length := L7.le
  clear hq6 hx6 g36 g56 hq5 hx5 g35 g5 hq4 hx4 g34 hq3 hx3 g33 hq2 hx2 g3 hq1 hx1 k1 k2 k3 k4 k5 k6 k7 f1 f3 f4 f6 f7 ixo
  have eat1 : (at_ : Int) + 1 = ((at_ + 1 : Nat) : Int) := by omega
  have esp1 : (spot : Int) + 1 = ((spot + 1 : Nat) : Int) := by omega
  -- the row's own words are put back
  have wtk : ∀ i, (wD ws).take i = wD (ws.take i) := fun i => by simp [wD, List.map_take]
  have wdr : ∀ i, (wD ws).drop i = wD (ws.drop i) := fun i => by simp [wD, List.map_drop]
  have wap : ∀ a c : List (List Nat), wD a ++ wD c = wD (a ++ c) := fun a c => by simp [wD]
  have oht : okR 1 (wo.take 1) := ⟨by simp; omega, fun w hw => oo.2 w (List.mem_of_mem_take hw)⟩
  have fin : ∀ (V : List (List Nat)) (M8 : Mem) (x : Option D) , okR (b + 1) V → Loc ab S M M8 → M8[q]? = some (.lst xs) → RwL lo b n M8 xs → (∀ p8, lo ≤ p8 → M8[p8]? = some (.lst (wD V)) → WS (sRet (eBin addF (eBin addF (eSl (eVar 1) oNone (oSome (eVar 2))) (eLst (aCons (eVar 3) aNil))) (eSl (eVar 1) (oSome (eBin addF (eVar 2) (eC (.int 1)))) oNone))) [some st, some (.ref q), some (.int (at_ : Int)), some (.ref p8), some (.int (spot : Int)), some (.ref p5), some (.str (txtS wd)), some (.int (way : Int))] M8 (kFn M K)) := fun V M8 x hV L8 hq8 hx8 p8 hp8 g8 => by
    have l1 : (xs.take at_).length ≤ 1000 := by simp; omega
    have l2 : (xs.drop (at_ + 1)).length ≤ 1000 := by simp; omega
    simp only [wp, wx, sl_ref hq8, cut_nat, add_int, eat1, cut_natF, add_lst (xs := xs.take at_) (ys := [D.ref p8]) (by simp; omega), add_lst (xs := xs.take at_ ++ [D.ref p8]) (ys := xs.drop (at_ + 1)) (by simp; omega)]
    refine kFnRows g (lo := lo) (b := b + 1) (n := n + 1) L8 ⟨by simp; omega, fun d hd => ?_⟩ (k _)
    rcases List.mem_append.mp hd with hd | hd
    · rcases List.mem_append.mp hd with hd | hd
      · exact (hx8.2 d (List.mem_of_mem_take hd)).up (by omega)
      · simp only [List.mem_singleton] at hd
        exact ⟨p8, V, hd, hp8, g8, hV⟩
    · exact (hx8.2 d (List.mem_of_mem_drop hd)).up (by omega)
  -- a list made of the rows
  have lin : ∀ (ys : List D) (M8 : Mem), Loc ab S M M8 → ys.length ≤ n + 1 → (∀ d ∈ ys, RwA lo (b + 1) M8 d) → kFn M K (.rt (.o (.lst ys)) M8) := fun ys M8 L8 h1 h2 => kFnRows g (lo := lo) (b := b + 1) (n := n + 1) L8 ⟨h1, h2⟩ (k _)
  have old : ∀ d ∈ xs, RwA lo (b + 1) M7 d := fun d hd => (hx7.2 d hd).up (by omega)
  have c : ∀ (i : Nat), decide ((way : Int) < (i : Int)) = decide (way < i) := fun i => by rw [Bool.eq_iff_iff, decide_eq_true_iff, decide_eq_true_iff]; omega
  have ce : ∀ (i : Nat), decide ((way : Int) = (i : Int)) = decide (way = i) := fun i => by rw [Bool.eq_iff_iff, decide_eq_true_iff, decide_eq_true_iff]; omega
  have l1 : (xs.take at_).length ≤ 1000 := by simp; omega
  have l2 : (xs.drop (at_ + 1)).length ≤ 1000 := by simp; omega
  have l3 : (xs.drop at_).length ≤ 1000 := by simp; omega
  simp only [wp, wx, ltF, cmp_int]
  by_cases h3 : way < 3
  · have d3 : decide ((way : Int) < 3) = true := decide_eq_true (by omega)
    simp only [d3, wp, wx, sl_ref g37, cut_nat, wtk]
    generalize hM9 : M7 ++ [Ob.lst [D.str (txtS wd)]] ++ [Ob.lst []] = M9
    have kp9 : KpW lo M7 M9 := by rw [← hM9, List.append_assoc]; exact KpW.app _
    have L9 : Loc ab S M M9 := by rw [← hM9, List.append_assoc]; exact L7.app g _
    have hl9 : M9.length = M7.length + 2 := by rw [← hM9]; simp
    have pick : ∃ (x : Nat) (U : List (List Nat)), ixF (.o (.lst [D.ref M7.length, D.ref p5, D.ref (M7 ++ [Ob.lst [D.str (txtS wd)]]).length])) (.v (.int (way : Int))) M9 = some (.v (.ref x), M9) ∧ M9[x]? = some (.lst (wD U)) ∧ okR 1 U := by
      have hw3 : way = 0 ∨ way = 1 ∨ way = 2 := by omega
      rcases hw3 with rfl | rfl | rfl
      · exact ⟨_, [wd], rfl, by rw [← hM9]; exact get_app (get_end rfl), by simp, fun w hw => by simp only [List.mem_singleton] at hw; rw [hw]; exact owd⟩
      · exact ⟨_, wo.take 1, rfl, kp9 p5 _ hM4 g57, oht⟩
      · exact ⟨_, [], rfl, by rw [← hM9]; exact get_end rfl, by simp, by simp⟩
    obtain ⟨x, U, hix, hgx, hU⟩ := pick
    have hU1 := hU.1
    have a1 : addF (.o (.lst (wD (ws.take spot)))) (.v (.ref x)) M9 = some (.o (.lst (wD (ws.take spot ++ U))), M9) := by
      rw [add_lr hgx (by simp [wD_len]; omega), wap]
    have a2 : addF (.o (.lst (wD (ws.take spot ++ U)))) (.o (.lst (wD (ws.drop (spot + 1))))) M9 = some (.o (.lst (wD (ws.take spot ++ U ++ ws.drop (spot + 1)))), M9) := by
      rw [add_lst (by simp [wD_len]; omega), wap]
    simp only [hix, wp, wx, a1, sl_ref (kp9 p3 _ hM1 g37), add_int, esp1, cut_natF, wdr, a2]
    have hV : okR (b + 1) (ws.take spot ++ U ++ ws.drop (spot + 1)) := ⟨by simp; omega, fun w hw => by
      rcases List.mem_append.mp hw with hw | hw
      · rcases List.mem_append.mp hw with hw | hw
        · exact ow.2 w (List.mem_of_mem_take hw)
        · exact hU.2 w hw
      · exact ow.2 w (List.mem_of_mem_drop hw)⟩
    have := fin _ (M9 ++ [Ob.lst (wD (ws.take spot ++ U ++ ws.drop (spot + 1)))]) none hV (L9.app g _) (get_app (kp9 q _ hql hq7)) ((hx7.kp kp9).kp (KpW.app _)) M9.length (by omega) (get_end rfl)
    simp only [wp, wx] at this
    exact this
  have d3 : decide ((way : Int) < 3) = false := decide_eq_false (by omega)
  simp only [d3, wp, wx, ltF, cmp_int]
  by_cases h5 : way < 5
  · have d5 : decide ((way : Int) < 5) = true := decide_eq_true (by omega)
    simp only [d5, wp, wx, sl_ref g37, cut_nat, cut_natF, wtk, wdr]
    have e1 : wD (ws.take spot) ++ [D.str (txtS wd)] = wD (ws.take spot ++ [wd]) := by simp [wD]
    have a1 : addF (.o (.lst (wD (ws.take spot)))) (.o (.lst [D.str (txtS wd)])) M7 = some (.o (.lst (wD (ws.take spot ++ [wd]))), M7) := by
      rw [add_lst (by simp [wD_len]; omega), e1]
    have a2 : addF (.o (.lst (wD (ws.take spot ++ [wd])))) (.o (.lst (wD (ws.drop spot)))) M7 = some (.o (.lst (wD (ws.take spot ++ [wd] ++ ws.drop spot))), M7) := by
      rw [add_lst (by simp [wD_len]; omega), wap]
    simp only [wp, wx, a1, sl_ref g37, cut_natF, wdr, a2]
    have hV : okR (b + 1) (ws.take spot ++ [wd] ++ ws.drop spot) := ⟨by simp; omega, fun w hw => by
      rcases List.mem_append.mp hw with hw | hw
      · rcases List.mem_append.mp hw with hw | hw
        · exact ow.2 w (List.mem_of_mem_take hw)
        · simp only [List.mem_singleton] at hw; rw [hw]; exact owd
      · exact ow.2 w (List.mem_of_mem_drop hw)⟩
    have := fin _ (M7 ++ [Ob.lst (wD (ws.take spot ++ [wd] ++ ws.drop spot))]) none hV (L7.app g _) (get_app hq7) (hx7.kp (KpW.app _)) M7.length (by omega) (get_end rfl)
    simp only [wp, wx] at this
    exact this
  have d5 : decide ((way : Int) < 5) = false := decide_eq_false (by omega)
  simp only [d5, wp, wx, eq_int]
  by_cases e5 : way = 5
  · have d : decide ((way : Int) = 5) = true := decide_eq_true (by omega)
    simp only [d, wp, wx, sl_ref hq7, cut_nat, add_int, eat1, cut_natF, add_lst (xs := xs.take at_) (ys := xs.drop (at_ + 1)) (by omega)]
    refine lin _ _ L7 (by simp; omega) fun d hd => ?_
    rcases List.mem_append.mp hd with hd | hd
    · exact old d (List.mem_of_mem_take hd)
    · exact old d (List.mem_of_mem_drop hd)
  have d : decide ((way : Int) = 5) = false := decide_eq_false (by omega)
  simp only [d, wp, wx, eq_int]
  by_cases e6 : way = 6
  · have d6 : decide ((way : Int) = 6) = true := decide_eq_true (by omega)
    simp only [d6, wp, wx, sl_ref hq7, cut_nat, cut_natF, ixat M7 at_ hat hq7, add_lst (xs := xs.take at_) (ys := [xs[at_]]) (by simp; omega), add_lst (xs := xs.take at_ ++ [xs[at_]]) (ys := xs.drop at_) (by simp; omega)]
    refine lin _ _ L7 (by simp; omega) fun d hd => ?_
    rcases List.mem_append.mp hd with hd | hd
    · rcases List.mem_append.mp hd with hd | hd
      · exact old d (List.mem_of_mem_take hd)
      · simp only [List.mem_singleton] at hd
        exact old d (by rw [hd]; exact List.getElem_mem hat)
    · exact old d (List.mem_of_mem_drop hd)
  have d6 : decide ((way : Int) = 6) = false := decide_eq_false (by omega)
  simp only [d6, wp, wx, eq_int]
  by_cases e7 : way = 7
  · have d7 : decide ((way : Int) = 7) = true := decide_eq_true (by omega)
    simp only [d7, wp, wx, sl_ref hq7, cut_nat, cut_natF]
    have hq8 := get_app (e := [Ob.lst []]) hq7
    simp only [add_lst (xs := xs.take at_) (ys := [D.ref M7.length]) (by simp; omega), wp, wx, sl_ref hq8, cut_natF, add_lst (xs := xs.take at_ ++ [D.ref M7.length]) (ys := xs.drop at_) (by simp; omega)]
    refine lin _ _ (L7.app g _) (by simp; omega) fun d hd => ?_
    rcases List.mem_append.mp hd with hd | hd
    · rcases List.mem_append.mp hd with hd | hd
      · exact (old d (List.mem_of_mem_take hd)).kp (KpW.app _)
      · simp only [List.mem_singleton] at hd
        exact ⟨_, [], hd, by omega, get_end rfl, by simp, by simp⟩
    · exact (old d (List.mem_of_mem_drop hd)).kp (KpW.app _)
  have d7 : decide ((way : Int) = 7) = false := decide_eq_false (by omega)
  simp only [d7, wp, wx, sl_ref g37]
  have ef : ("freshly" : Str) = txtS [102, 114, 101, 115, 104, 108, 121] := by decide
  have a1 : addF (.o (.lst [D.str "freshly"])) (.o (.lst (cutD (wD ws) (some 1) none))) M7 = some (.o (.lst (wD ([102, 114, 101, 115, 104, 108, 121] :: ws.drop 1))), M7) := by
    rw [ef, cut_from (show (0 : Int) ≤ 1 by omega), show (1 : Int).toNat = 1 from rfl, wdr, add_lst (by simp [wD_len]; omega)]
    rfl
  have hq8 := get_app (e := [Ob.lst (wD ([102, 114, 101, 115, 104, 108, 121] :: ws.drop 1))]) hq7
  simp only [a1, wp, wx, add_rl hq8 (ys := [D.ref M7.length]) (by simp; omega)]
  refine lin _ _ (L7.app g _) (by simp; omega) fun d hd => ?_
  rcases List.mem_append.mp hd with hd | hd
  · exact (old d hd).kp (KpW.app _)
  · simp only [List.mem_singleton] at hd
    refine ⟨_, [102, 114, 101, 115, 104, 108, 121] :: ws.drop 1, hd, by omega, get_end rfl, by simp; omega, fun w hw => ?_⟩
    rcases List.mem_cons.mp hw with rfl | hw
    · exact okW_of (by decide)
    · exact ow.2 w (List.mem_of_mem_drop hw)
noncomputable def _law_same_E1 (rec : Fn) (ρ : Env) (m : Mem) : Option (Out × Mem) := (eCall rec (aCons (eVar 2) (aCons (eVar 3) aNil))) ρ m
theorem w__law_same_E1 {rec : Fn} {ρ : Env} {M : Mem} {Q : PO2} : WE (_law_same_E1 rec) ρ M Q ↔ WE (eCall rec (aCons (eVar 2) (aCons (eVar 3) aNil))) ρ M Q := Iff.rfl
noncomputable def _law_same_B (rec : Fn) : Fn := fnD 2 4
    (sSeq (sIf (bOf (eUn (isiF .tuple) (eVar 1))) (sSeq (sIf (bOr (bNot (bOf (eUn (isiF .tuple) (eVar 0)))) (bOf (eBin neF (eUn lenF (eVar 0)) (eUn lenF (eVar 1))))) (sRet (eC (.bl false))) sNil)
    (sRet (eUn allF (eComp (iZip (eVar 0) (eVar 1)) [2, 3] (.tp [2, 3]) bYes (_law_same_E1 rec))))) sNil)
    (sSeq (sIf (bOf (eBin (isF false) (eVar 1) (eC .non))) (sRet (eBin (isF false) (eVar 0) (eC .non))) sNil)
    (sSeq (sIf (bOf (eUn (isiF .bool) (eVar 1))) (sRet (eAnd (eUn (isiF .bool) (eVar 0)) (eBin eqF (eVar 0) (eVar 1)))) sNil)
    (sSeq (sIf (bOf (eUn (isiF .str) (eVar 1))) (sRet (eAnd (eUn (isiF .str) (eVar 0)) (eBin eqF (eVar 0) (eVar 1)))) sNil)
    (sRet (eAnd (eUn (isiF .int) (eVar 0)) (eAnd (eNot (eUn (isiF .bool) (eVar 0))) (eBin eqF (eVar 0) (eVar 1)))))))))
noncomputable def m__law_same : Nat → Fn
  | 0 => fnD 2 4 (fun _ _ => none)
  | n + 1 => _law_same_B (m__law_same n)
mutual
def pu : Nat → D → Bool
  | 0, _ => false
  | _ + 1, .non => true
  | _ + 1, .bl _ => true
  | _ + 1, .int _ => true
  | _ + 1, .str s => PyData.strOk s
  | n + 1, .tup xs => puL n xs
  | _ + 1, _ => false
def puL : Nat → List D → Bool
  | _, [] => true
  | n, d :: ds => pu n d && puL n ds
end
theorem puL_iff (n : Nat) : ∀ ds : List D, puL n ds = true ↔ ∀ d ∈ ds, pu n d = true
  | [] => by simp [puL]
  | d :: ds => by simp [puL, puL_iff n ds]
theorem pu_nat (n : Nat) (w : List Nat) : pu (n + 2) (tN w) = true := by
  simp only [tN, pu, puL_iff]
  intro d hd
  obtain ⟨r, _, rfl⟩ := List.mem_map.mp hd
  simp [pu]
theorem pu_mach (n : Nat) (m : List (List Nat)) : pu (n + 3) (tM m) = true := by
  simp only [tM, pu, puL_iff]
  intro d hd
  obtain ⟨r, _, rfl⟩ := List.mem_map.mp hd
  exact pu_nat n r
theorem same_trues (n : Nat) : ∀ k : Nat, blsOf (List.replicate k (D.bl true)) = some (List.replicate k true)
  | 0 => rfl
  | k + 1 => by simp [List.replicate_succ, blsOf, same_trues n k]
theorem same_refl : ∀ (n : Nat) (d : D) (M : Mem), pu n d = true → m__law_same n [d, d] M = some (.v (.bl true), M)
  | 0, d, M, h => by cases d <;> simp [pu] at h
  | n + 1, d, M, h => by
    rw [m__law_same]
    unfold _law_same_B fnD
    cases d with
    | non => simp [isiF, tyOf, isiB, shut_s]
    | bl b => simp [isiF, tyOf, isiB, shut_s, isF, eqF, form, okD, D.eqb]
    | int i => simp [isiF, tyOf, isiB, shut_s, isF, eqF, form, okD, D.eqb]
    | str s => simp [pu] at h; simp [isiF, tyOf, isiB, shut_s, isF, eqF, form, okD, D.eqb, h]
    | fl xs => simp [pu] at h
    | par xs => simp [pu] at h
    | ref k => simp [pu] at h
    | lam k xs => simp [pu] at h
    | tup xs =>
      have h' : puL n xs = true := by simpa [pu] using h
      have hh := (puL_iff n xs).mp h'
      have key : ∀ (ys : List D), (∀ d ∈ ys, pu n d = true) → cmpL (.tp [2, 3]) bYes (_law_same_E1 (m__law_same n)) [] [some (.tup xs), some (.tup xs), none, none] (zipD ys ys) M = some (List.replicate ys.length (.bl true), M) := by
        intro ys
        induction ys with
        | nil => intro _; simp [zipD, cmpL_nil]
        | cons y ys ih =>
          intro hy
          have e := same_refl n y M (hy y (by simp))
          rw [zipD, cmpL_cons]
          simp [Tg.put, setAll, _law_same_E1, e, ih fun d hd => hy d (by simp [hd]), List.replicate_succ]
      have k := key xs hh
      simp [isiF, tyOf, isiB, len_tup, eComp, zipOf, wipeE, k, allF, lstOf, same_trues n, shut_s]
/-! ### rows as a text -/
theorem ltrs_mem {c : Nat} (h : c ∈ ltrs) : 97 ≤ c ∧ c < 123 := by
  unfold ltrs at h
  rw [List.mem_range'] at h
  obtain ⟨i, hi, rfl⟩ := h
  omega
theorem name_facts {w : List Nat} (h : nameB w = true) : 32 ∉ w ∧ 10 ∉ w ∧ w ≠ [] ∧ Asc w ∧ w.length ≤ 8 ∧ 1 ≤ w.length := by
  unfold nameB at h
  rw [Bool.and_eq_true, Bool.and_eq_true, decide_eq_true_iff, decide_eq_true_iff, List.all_eq_true] at h
  have hl : ∀ c ∈ w, 97 ≤ c ∧ c < 123 := fun c hc => ltrs_mem (by simpa using h.2.2 c hc)
  exact ⟨fun z => by have := hl _ z; omega, fun z => by have := hl _ z; omega, fun z => by rw [z] at h; simp at h, fun c hc => by have := hl c hc; omega, h.2.1, h.1⟩
theorem splitL_cons {c : Nat} : ∀ (w a : List Nat), c ∉ w → splitL c (w ++ c :: a) = w :: splitL c a
  | [], a, _ => by simp [splitL]
  | x :: w, a, h => by
    have hx : x ≠ c := fun z => h (z ▸ List.mem_cons_self)
    have ih := splitL_cons w a fun z => h (List.mem_cons_of_mem _ z)
    show splitL c (x :: (w ++ c :: a)) = _
    rw [splitL, if_neg hx, ih]
theorem splitL_one {c : Nat} (w : List Nat) (h : c ∉ w) : splitL c w = [w] := by
  have := splitL_of (c := c) (ps := [w]) (by simp) (by simpa using h)
  simpa [joinT] using this
theorem wordsL_blank (a : List Nat) : wordsL (32 :: a) = wordsL a := by
  unfold wordsL
  rw [show (32 :: a) = [] ++ 32 :: a from rfl, splitL_cons [] a (by simp)]
  simp
theorem wordsL_blanks (a : List Nat) : ∀ k, wordsL (List.replicate k 32 ++ a) = wordsL a
  | 0 => rfl
  | k + 1 => by rw [List.replicate_succ, List.cons_append, wordsL_blank, wordsL_blanks a k]
theorem wordsL_cons {w : List Nat} (h : 32 ∉ w) (hn : w ≠ []) (a : List Nat) : wordsL (w ++ 32 :: a) = w :: wordsL a := by
  unfold wordsL
  rw [splitL_cons w a h]
  simp [hn]
theorem wordsL_one {w : List Nat} (h : 32 ∉ w) (hn : w ≠ []) : wordsL w = [w] := by
  unfold wordsL
  rw [splitL_one w h]
  simp [hn]
theorem wordsL_nil : wordsL [] = [] := by simp [wordsL, splitL]
theorem wordsL_only (k : Nat) : wordsL (List.replicate k 32) = [] := by
  have := wordsL_blanks [] k
  rw [List.append_nil, wordsL_nil] at this
  exact this
/-- words parted by blanks, blanks behind -/
theorem wordsL_join {g b : Nat} : ∀ (ws : List (List Nat)) (w : List Nat), (∀ v ∈ w :: ws, 32 ∉ v ∧ v ≠ []) → wordsL (joinT (List.replicate (g + 1) 32) (w :: ws) ++ List.replicate b 32) = w :: ws
  | [], w, h => by
    obtain ⟨h1, h2⟩ := h w List.mem_cons_self
    show wordsL (w ++ [] ++ List.replicate b 32) = [w]
    rw [List.append_nil]
    cases b with
    | zero => rw [List.replicate_zero, List.append_nil]; exact wordsL_one h1 h2
    | succ b => rw [List.replicate_succ, wordsL_cons h1 h2, wordsL_only]
  | v :: ws, w, h => by
    obtain ⟨h1, h2⟩ := h w List.mem_cons_self
    have ih := wordsL_join (g := g) (b := b) ws v fun u hu => h u (List.mem_cons_of_mem _ hu)
    have e : joinT (List.replicate (g + 1) 32) (w :: v :: ws) ++ List.replicate b 32 = w ++ 32 :: (List.replicate g 32 ++ (joinT (List.replicate (g + 1) 32) (v :: ws) ++ List.replicate b 32)) := by
      simp [joinT, List.replicate_succ]
    rw [e, wordsL_cons h1 h2, wordsL_blanks, ih]
theorem wordsL_loose {a g b : Nat} {ws : List (List Nat)} (hne : ws ≠ []) (h : ∀ v ∈ ws, 32 ∉ v ∧ v ≠ []) : wordsL (List.replicate a 32 ++ joinT (List.replicate (g + 1) 32) ws ++ List.replicate b 32) = ws := by
  cases ws with
  | nil => exact absurd rfl hne
  | cons w ws => rw [List.append_assoc, wordsL_blanks, wordsL_join ws w h]
theorem wordsL_row {ws : List (List Nat)} (hne : ws ≠ []) (h : ∀ v ∈ ws, 32 ∉ v ∧ v ≠ []) : wordsL (joinT [32] ws) = ws := by
  have := wordsL_loose (a := 0) (g := 0) (b := 0) hne h
  simpa using this
theorem join_mem {sep : List Nat} : ∀ {ws : List (List Nat)} {c : Nat}, c ∈ joinT sep ws → c ∈ sep ∨ ∃ w ∈ ws, c ∈ w
  | [], c, h => by simp [joinT] at h
  | w :: ws, c, h => by
    rcases List.mem_append.mp h with h | h
    · exact .inr ⟨w, List.mem_cons_self, h⟩
    · obtain ⟨v, hv, h⟩ := List.mem_flatMap.mp h
      rcases List.mem_append.mp h with h | h
      · exact .inl h
      · exact .inr ⟨v, List.mem_cons_of_mem _ hv, h⟩
theorem join_len (sep : List Nat) (ws : List (List Nat)) {b : Nat} (h : ∀ w ∈ ws, w.length ≤ b) : (joinT sep ws).length ≤ ws.length * (b + sep.length) := by
  cases ws with
  | nil => simp [joinT]
  | cons w ws =>
    have key : ∀ ws : List (List Nat), (∀ w ∈ ws, w.length ≤ b) → (ws.flatMap fun q => sep ++ q).length ≤ ws.length * (b + sep.length) := by
      intro ws
      induction ws with
      | nil => intro _; simp
      | cons v ws ih =>
        intro h
        have h1 := h v List.mem_cons_self
        have h2 := ih fun u hu => h u (List.mem_cons_of_mem _ hu)
        rw [List.flatMap_cons, List.length_append, List.length_append, List.length_cons, Nat.succ_mul]
        omega
    have h1 := h w List.mem_cons_self
    have h2 := key ws fun u hu => h u (List.mem_cons_of_mem _ hu)
    show (w ++ ws.flatMap fun q => sep ++ q).length ≤ _
    rw [List.length_append, List.length_cons, Nat.succ_mul]
    omega
/-- the text of rows, their words parted by blanks -/
def txW (g : Nat) (W : List Row) : List Nat := joinT [10] (W.map (joinT (List.replicate (g + 1) 32)))
theorem row_txt {g b : Nat} {r : Row} (h : okR b r) : wordsL (joinT (List.replicate (g + 1) 32) r) = r ∧ 10 ∉ joinT (List.replicate (g + 1) 32) r ∧ Asc (joinT (List.replicate (g + 1) 32) r) ∧ (joinT (List.replicate (g + 1) 32) r).length ≤ b * (10 + g) := by
  refine ⟨?_, fun z => ?_, fun c hc => ?_, ?_⟩
  · cases r with
    | nil => exact wordsL_nil
    | cons w r =>
      have := wordsL_join (g := g) (b := 0) r w fun v hv => ⟨(h.2 v hv).1, (h.2 v hv).2.2.1⟩
      rwa [List.replicate_zero, List.append_nil] at this
  · rcases join_mem z with hc | ⟨w, hw, hc⟩
    · have := List.eq_of_mem_replicate hc; omega
    · exact (h.2 w hw).2.1 hc
  · rcases join_mem hc with hc | ⟨w, hw, hc⟩
    · rw [List.eq_of_mem_replicate hc]; omega
    · exact (h.2 w hw).2.2.2.1 c hc
  · have h1 := join_len (List.replicate (g + 1) 32) r (b := 9) fun w hw => (h.2 w hw).2.2.2.2
    simp only [List.length_replicate] at h1
    have h2 := h.1
    have : r.length * (9 + (g + 1)) ≤ b * (10 + g) := by
      rw [show 9 + (g + 1) = 10 + g by omega]
      exact Nat.mul_le_mul_right _ h2
    omega
theorem txW_asc {g b : Nat} {W : List Row} (h : ∀ r ∈ W, okR b r) : Asc (txW g W) := fun c hc => by
  rcases join_mem hc with hc | ⟨w, hw, hc⟩
  · simp at hc; omega
  · obtain ⟨r, hr, rfl⟩ := List.mem_map.mp hw
    exact (row_txt (h r hr)).2.2.1 c hc
theorem txW_len {g b : Nat} {W : List Row} (h : ∀ r ∈ W, okR b r) : (txW g W).length ≤ W.length * (b * (10 + g) + 1) := by
  have := join_len [10] (W.map (joinT (List.replicate (g + 1) 32))) (b := b * (10 + g)) fun w hw => by
    obtain ⟨r, hr, rfl⟩ := List.mem_map.mp hw
    exact (row_txt (h r hr)).2.2.2
  unfold txW
  simpa using this
theorem rowsX_txW {g b : Nat} {W : List Row} (h : ∀ r ∈ W, okR b r) : rowsX (txW g W) = if W = [] then [[]] else W := by
  unfold rowsX
  split
  · rename_i e
    subst e
    simp [txW, joinT, splitL, wordsL_nil]
  · rename_i e
    unfold txW
    rw [splitL_of (by simpa using e) fun p hp => by obtain ⟨r, hr, rfl⟩ := List.mem_map.mp hp; exact (row_txt (h r hr)).2.1, List.map_map]
    exact (List.map_congr_left fun r hr => (row_txt (h r hr)).1).trans (List.map_id _)
theorem due_txW {g b : Nat} {W : List Row} (h : ∀ r ∈ W, okR b r) : dueN (rowsX (txW g W)) = dueN W ∧ full (rowsX (txW g W)) = full W := by
  rw [rowsX_txW h]
  split
  · rename_i e; subst e; exact ⟨rfl, rfl⟩
  · exact ⟨rfl, rfl⟩
theorem due_none {W : List Row} (h : dueN W = none) : ∀ r ∈ full W, ∀ w ∈ r, w ∈ headsN (full W) := fun r hr w hw => by
  unfold dueN at h
  split at h
  · cases h
  · split at h
    · cases h
    · rename_i hu
      have := List.findIdx?_eq_none_iff.mp hu r (List.mem_filter.mp hr).1
      simp only [unkB, Bool.not_eq_eq_eq_not, Bool.not_false, List.all_eq_true] at this
      simpa using this w hw
theorem due_txt {W : List Row} {i : Nat} {f : Str} (h : dueN W = some (i, f)) : ∃ cs, f = txtS cs ∧ Asc cs := by
  have key : ∀ (R : List Row) (k : Nat) (ah : List Row) (i : Nat) (f : Str), dueF k ah R = some (i, f) → ∃ cs, f = txtS cs ∧ Asc cs := by
    intro R
    induction R with
    | nil => intro k ah i f h; cases h
    | cons ws R ih =>
      intro k ah i f h
      rw [dueF_cons] at h
      split at h
      · exact ih _ _ _ _ h
      · split at h
        · rename_i f' hf
          cases h
          obtain ⟨cs, h1, h2, _⟩ := fault_txt hf
          exact ⟨cs, h1, h2⟩
        · exact ih _ _ _ _ h
  unfold dueN at h
  split at h
  · rename_i x hx
    cases h
    exact key _ _ _ _ _ hx
  · split at h
    · cases h
      exact ⟨[114, 111, 111, 109], by decide, fun c hc => by simp at hc; omega⟩
    · split at h
      · cases h
        exact ⟨[110, 111, 110, 101], by decide, fun c hc => by simp at hc; omega⟩
      · cases h
theorem pu_du {W : List Row} (n : Nat) : pu (n + 3) (duD (dueN W)) = true := by
  cases h : dueN W with
  | none => rfl
  | some x =>
    obtain ⟨i, f⟩ := x
    obtain ⟨cs, rfl, h2⟩ := due_txt h
    have := asc_ok h2
    simp [duD, pu, puL, this]
noncomputable def law_E1 (ρ : Env) (m : Mem) : Option (Out × Mem) := (eMt1 "str" joinF (eVar 7) (eVar 12)) ρ m
theorem w_law_E1 {ρ : Env} {M : Mem} {Q : PO2} : WE law_E1 ρ M Q ↔ WE (eMt1 "str" joinF (eVar 7) (eVar 12)) ρ M Q := Iff.rfl
noncomputable def law_F1 (ρ : Env) (m : Mem) : Option R := (sSet 5 (eCall m__law_spoilt (aCons (eVar 1) (aCons (eVar 5) aNil)))) ρ m
theorem w_law_F1 {ρ : Env} {M : Mem} {Q : R → Prop} : WS law_F1 ρ M Q ↔ WS (sSet 5 (eCall m__law_spoilt (aCons (eVar 1) (aCons (eVar 5) aNil)))) ρ M Q := Iff.rfl
noncomputable def law_E2 (ρ : Env) (m : Mem) : Option (Out × Mem) := (eLst aNil) ρ m
theorem w_law_E2 {ρ : Env} {M : Mem} {Q : PO2} : WE law_E2 ρ M Q ↔ WE (eLst aNil) ρ M Q := Iff.rfl
noncomputable def law_E3 (ρ : Env) (m : Mem) : Option (Out × Mem) := (eBin ixF (eVar 4) (eVar 13)) ρ m
theorem w_law_E3 {ρ : Env} {M : Mem} {Q : PO2} : WE law_E3 ρ M Q ↔ WE (eBin ixF (eVar 4) (eVar 13)) ρ M Q := Iff.rfl
noncomputable def law_E4 (ρ : Env) (m : Mem) : Option (Out × Mem) := (eBin addF (eLst (aCons (eVar 10) aNil)) (eComp (iE (eVar 11)) [13] (.nm 13) bYes law_E3)) ρ m
theorem w_law_E4 {ρ : Env} {M : Mem} {Q : PO2} : WE law_E4 ρ M Q ↔ WE (eBin addF (eLst (aCons (eVar 10) aNil)) (eComp (iE (eVar 11)) [13] (.nm 13) bYes law_E3)) ρ M Q := Iff.rfl
noncomputable def law_F2 (ρ : Env) (m : Mem) : Option R := (sSeq (sSet 3 (eCall m__law_machine (aCons (eVar 1) (aCons (eC (.int 26)) (aCons (eC (.int 6)) aNil)))))
    (sSeq (sSet 4 (eCall m__law_names (aCons (eVar 1) (aCons (eUn lenF (eVar 3)) aNil))))
    (sSeq (sSet 5 (eComp (iZip (eVar 4) (eVar 3)) [10, 11] (.tp [10, 11]) bYes law_E4))
    (sSeq (sIf (bOf (eBin eqF (eCall m__law_next (aCons (eVar 1) (aCons (eC (.int 16)) aNil))) (eC (.int 0)))) (sSet 5 (eComp (iRg1 (eCall m__law_next (aCons (eVar 1) (aCons (eC (.int 4)) aNil)))) [6] (.nm 6) bYes law_E2)) sNil)
    (sSeq (sFor (iRg1 (eCall m__law_next (aCons (eVar 1) (aCons (eC (.int 4)) aNil)))) (gT (.nm 6)) law_F1)
    (sSeq (sSet 7 (eBin mulF (eC (.str " ")) (eBin addF (eC (.int 1)) (eCall m__law_next (aCons (eVar 1) (aCons (eC (.int 3)) aNil))))))
    (sSeq (sSet 8 (eMt1 "str" joinF (eC (.str "\n")) (eComp (iE (eVar 5)) [12] (.nm 12) bYes law_E1)))
    (sSeq (sSet 9 (eCall m__law_due (aCons (eVar 5) aNil)))
    (sSeq (sIf (bNot (bOf (eCall (m__law_same 8) (aCons (eCall m__law_refused (aCons (eVar 8) aNil)) (aCons (eVar 9) aNil))))) (sRet (eC (.bl false))) sNil)
    (sIf (bAnd (bOf (eBin (isF false) (eVar 9) (eC .non))) (bNot (bOf (eCall (m__law_same 8) (aCons (eCall (okFn m_read_machine) (aCons (eVar 8) aNil)) (aCons (eCall m__law_told (aCons (eVar 5) aNil)) aNil)))))) (sRet (eC (.bl false))) sNil)))))))))) ρ m
theorem w_law_F2 {ρ : Env} {M : Mem} {Q : R → Prop} : WS law_F2 ρ M Q ↔ WS (sSeq (sSet 3 (eCall m__law_machine (aCons (eVar 1) (aCons (eC (.int 26)) (aCons (eC (.int 6)) aNil)))))
    (sSeq (sSet 4 (eCall m__law_names (aCons (eVar 1) (aCons (eUn lenF (eVar 3)) aNil))))
    (sSeq (sSet 5 (eComp (iZip (eVar 4) (eVar 3)) [10, 11] (.tp [10, 11]) bYes law_E4))
    (sSeq (sIf (bOf (eBin eqF (eCall m__law_next (aCons (eVar 1) (aCons (eC (.int 16)) aNil))) (eC (.int 0)))) (sSet 5 (eComp (iRg1 (eCall m__law_next (aCons (eVar 1) (aCons (eC (.int 4)) aNil)))) [6] (.nm 6) bYes law_E2)) sNil)
    (sSeq (sFor (iRg1 (eCall m__law_next (aCons (eVar 1) (aCons (eC (.int 4)) aNil)))) (gT (.nm 6)) law_F1)
    (sSeq (sSet 7 (eBin mulF (eC (.str " ")) (eBin addF (eC (.int 1)) (eCall m__law_next (aCons (eVar 1) (aCons (eC (.int 3)) aNil))))))
    (sSeq (sSet 8 (eMt1 "str" joinF (eC (.str "\n")) (eComp (iE (eVar 5)) [12] (.nm 12) bYes law_E1)))
    (sSeq (sSet 9 (eCall m__law_due (aCons (eVar 5) aNil)))
    (sSeq (sIf (bNot (bOf (eCall (m__law_same 8) (aCons (eCall m__law_refused (aCons (eVar 8) aNil)) (aCons (eVar 9) aNil))))) (sRet (eC (.bl false))) sNil)
    (sIf (bAnd (bOf (eBin (isF false) (eVar 9) (eC .non))) (bNot (bOf (eCall (m__law_same 8) (aCons (eCall (okFn m_read_machine) (aCons (eVar 8) aNil)) (aCons (eCall m__law_told (aCons (eVar 5) aNil)) aNil)))))) (sRet (eC (.bl false))) sNil)))))))))) ρ M Q := Iff.rfl
noncomputable def m_law : Fn := fnD 1 14
    (sSeq (sSet 1 (eCall m__law_begin (aCons (eVar 0) aNil)))
    (sSeq (sFor (iRg1 (eBin addF (eC (.int 2)) (eUn lenF (eSl (eVar 0) oNone (oSome (eC (.int 12))))))) (gT (.nm 2)) law_F2)
    (sRet (eAnd (eCall (m__law_same 8) (aCons (eCall m__law_refused (aCons (eC (.str "")) aNil)) (aCons (eTup (aCons (eC (.int 1)) (aCons (eC (.str "none")) aNil))) aNil))) (eCall (m__law_same 8) (aCons (eCall m__law_refused (aCons (eC (.str "\n  \n")) aNil)) (aCons (eTup (aCons (eC (.int 3)) (aCons (eC (.str "none")) aNil))) aNil)))))))
theorem kIfS_J {A C : S} {ρ : Env} {M : Mem} {Q : R → Prop} {c : Bool} (J : Env → Mem → Prop) (h1 : c = true → WS A ρ M (fun r => ∃ ρ' M', r = .nx ρ' M' ∧ J ρ' M')) (h2 : c = false → J ρ M) (h3 : ∀ ρ' M', J ρ' M' → WS C ρ' M' Q) : kIfS A sNil ρ (kSeq C Q) c M := by
  cases c with
  | true =>
    obtain ⟨r, e, ρ', M', rfl, j⟩ := h1 rfl
    exact ⟨_, e, h3 ρ' M' j⟩
  | false => exact ⟨_, rfl, h3 ρ M (h2 rfl)⟩
theorem hzip8 (a b : List (List Nat)) (M : Mem) : zipOf (.v (.tup (wD a))) (.v (tM b)) M = some ⟨(a.zip b).map fun p => D.par [.str (txtS p.1), tN p.2], []⟩ := by
  have hz : ∀ (a b : List (List Nat)), zipD (wD a) (b.map tN) = (a.zip b).map fun p => D.par [.str (txtS p.1), tN p.2] := by
    intro a
    induction a with
    | nil => intro b; cases b <;> simp [wD, zipD]
    | cons x a ih =>
      intro b
      cases b with
      | nil => simp [wD, zipD]
      | cons y b =>
        have := ih b
        simp only [wD] at this
        simp [wD, zipD, this]
  simp only [zipOf, tM, hz]
theorem law_true (ns : List Int) (hns : ns.length ≤ 63) : ∃ m', m_law [.fl (ns.map .int)] [] = some (.v (.bl true), m') := by
  obtain ⟨⟨s, M0⟩, e0, st0, l0⟩ := begin_eq ns hns
  simp only at e0 st0 l0
  have g := gen1 1 0
  refine law_of ns ?_
  unfold m_law
  have hc : ((cutD (ns.map D.int) none (some 12)).length : Int) ≤ 12 := by rw [cut_to (by decide)]; simp; omega
  have esp : (" " : Str) = txtS [32] := by decide
  have enl : ("\n" : Str) = txtS [10] := by decide
  have enn : ("" : Str) = txtS [] := by decide
  have en3 : ("\n  \n" : Str) = txtS [10, 32, 32, 10] := by decide
  have hab : ∀ i ∈ [1, 0], i < 2 := by simp
  have two : ∀ M, S1 1 0 M → 2 ≤ M.length := fun M h => by have := g.ins M h 1 (by simp); omega
  simp only [wp, wx, wf, Nat.reduceSub, e0, l0, sl_fl, len_ol, add_int]
  refine ⟨rgOk_of (by omega) (by omega), ?_⟩
  refine wl_rg0 (fun i ρ M => S1 1 0 M ∧ ∃ x2 x3 x4 x5 x6 x7 x8 x9 x10 x11 x12 x13, ρ = [some (.fl (ns.map .int)), some (.ref 1), x2, x3, x4, x5, x6, x7, x8, x9, x10, x11, x12, x13]) ⟨st0, _, _, _, _, _, _, _, _, _, _, _, _, rfl⟩ (fun i0 ρ M hi j => ?_) (fun ρ M j => ?_)
  · obtain ⟨sM, x2, x3, x4, x5, x6, x7, x8, x9, x10, x11, x12, x13, rfl⟩ := j
    simp only [wp, wx, w_law_F2]
    obtain ⟨m, l, M1, e1, hm, h0, hb, hl0, hl, s1, f1⟩ := mach_ex g sM (mr := 26) (ml := 6) (by omega) (by omega) (by omega) (by omega)
    simp only [show (26 : Int) = ((26 : Nat) : Int) from rfl, show (6 : Int) = ((6 : Nat) : Int) from rfl, e1, wp, wx, len_tM]
    refine names_w g s1 (n := m.length) (by omega) fun nm M2 hnl hnd hnn s2 f2 => ?_
    simp only [wp, wx, hzip8]
    have hln : m.length = nm.length := hnl.symm
    have h2M : 2 ≤ M2.length := two M2 s2
    have okn : ∀ w ∈ nm, okW w := fun w hw => by
      obtain ⟨a1, a2, a3, a4, a5, a6⟩ := name_facts (hnn w hw)
      exact ⟨a1, a2, a3, a4, by omega⟩
    refine wc_inv (fun i acc M' => (∃ e, M' = M2 ++ e) ∧ RwL 2 7 i M' acc) ⟨⟨[], by simp⟩, by simp, by simp⟩ (fun _ _ _ _ _ => chk_nil) (fun i x acc M' hx j => ?_) (fun acc M3 j => ?_)
    · obtain ⟨⟨e, rfl⟩, ha⟩ := j
      rw [List.getElem?_map] at hx
      obtain ⟨y, e1, rfl⟩ := Option.map_eq_some_iff.mp hx
      obtain ⟨hi, rfl⟩ := List.getElem?_eq_some_iff.mp e1
      have hin : i < nm.length := by simp at hi; omega
      have him : i < m.length := by omega
      have eix : ∀ (g : Nat), g < nm.length → ∀ M : Mem, ixF (.v (.tup (wD nm))) (.v (.int (g : Int))) M = some (.v (.str (txtS (nm.getD g []))), M) := fun g hg M => by
        refine ix_tup ?_ M
        simp [wD, hg, List.getD]
      have hml : m[i].length = l := hm.row him
      simp only [List.getElem_zip, wp, wx, wc, w_law_E4, src_tN]
      refine wc_map (fun (g : Nat) => D.int (g : Int)) (fun g => .str (txtS (nm.getD g []))) m[i] (fun g hg => ?_) ?_
      · have := hm.lt m[i] (List.getElem_mem him) g hg
        simp only [wp, wx, w_law_E3, eix g (by omega)]
        exact ⟨rfl, rfl⟩
      have hap : ∀ M : Mem, addF (.o (.lst [D.str (txtS nm[i])])) (.o (.lst (m[i].map fun g => D.str (txtS (nm.getD g []))))) M = some (.o (.lst (wD (nm[i] :: m[i].map fun g => nm.getD g []))), M) := fun M => by
        rw [add_lst (by simp; omega)]
        simp [wD, Function.comp_def]
      simp only [wp, wx, wc, hap]
      refine ⟨⟨e ++ [.lst (wD (nm[i] :: m[i].map fun g => nm.getD g []))], by simp⟩, by simp; exact ha.1, fun d hd => ?_⟩
      rcases List.mem_append.mp hd with hd | hd
      · exact (ha.2 d hd).kp (KpW.app _)
      · simp only [List.mem_singleton] at hd
        subst hd
        refine ⟨_, nm[i] :: m[i].map fun g => nm.getD g [], rfl, by simp; omega, get_end rfl, by simp; omega, fun w hw => ?_⟩
        rcases List.mem_cons.mp hw with rfl | hw
        · exact okn _ (List.getElem_mem hin)
        · obtain ⟨g, hg, rfl⟩ := List.mem_map.mp hw
          have := hm.lt m[i] (List.getElem_mem him) g hg
          have hgn : g < nm.length := by omega
          rw [show nm.getD g [] = nm[g] by simp [List.getD, hgn]]
          exact okn _ (List.getElem_mem hgn)
    · obtain ⟨⟨e, rfl⟩, ha⟩ := j
      have s3 := g.app s2 e
      generalize M2 ++ e = M3 at s3 ha
      have hzl : ((nm.zip m).map fun p => D.par [.str (txtS p.1), tN p.2]).length ≤ 26 := by simp; omega
      have h2M3 := two M3 s3
      simp only [wp, wx]
      have s4 := g.app s3 [Ob.lst acc]
      have g4 : (M3 ++ [Ob.lst acc])[M3.length]? = some (.lst acc) := get_end rfl
      have hx4 : RwL 2 7 26 (M3 ++ [Ob.lst acc]) acc := RwL.kp (M := M3) ⟨Nat.le_trans ha.1 hzl, ha.2⟩ (KpW.app _)
      generalize M3 ++ [Ob.lst acc] = M4 at s4 g4 hx4
      generalize M3.length = q at h2M3 g4
      refine g.w s4 (n := 16) (by omega) (by omega) fun r M5 hr s5 f5 => ?_
      have k5 : KpW 2 M4 M5 := KpW.fr hab f5
      simp only [wp, wx, eq_int]
      refine kIfS_J (fun ρ' M' => ∃ q xs x6 x10 x11 x12 x13, ρ' = [some (.fl (ns.map .int)), some (.ref 1), some (.int (i0 : Int)), some (tM m), some (.tup (wD nm)), some (.ref q), x6, x7, x8, x9, x10, x11, x12, x13] ∧ S1 1 0 M' ∧ 2 ≤ q ∧ M'[q]? = some (.lst xs) ∧ RwL 2 7 26 M' xs) (fun _ => ?_) (fun _ => ⟨q, acc, _, _, _, _, _, rfl, s5, h2M3, k5 q _ h2M3 g4, hx4.kp k5⟩) (fun ρ' M' J => ?_)
      · simp only [wp, wx]
        refine g.w s5 (n := 4) (by omega) (by omega) fun r4 M6 hr4 s6 f6 => ?_
        simp only [wp, wx]
        refine ⟨rg_nat (by omega), ?_⟩
        rw [Int.toNat_natCast]
        have h2M6 := two _ s6
        refine wc_inv (fun i acc M' => (∃ e, M' = M6 ++ e) ∧ RwL 2 7 i M' acc) ⟨⟨[], by simp⟩, by simp, by simp⟩ (fun _ _ _ _ _ => chk_nil) (fun i x acc M' hx j => ?_) (fun acc M7 j => ?_)
        · obtain ⟨⟨e, rfl⟩, ha⟩ := j
          simp only [wp, wx, wc]
          simp only [wp, wx, wc, w_law_E2]
          refine ⟨⟨e ++ [.lst []], by simp⟩, by simp; exact ha.1, fun d hd => ?_⟩
          rcases List.mem_append.mp hd with hd | hd
          · exact (ha.2 d hd).kp (KpW.app _)
          · simp only [List.mem_singleton] at hd
            subst hd
            exact ⟨_, [], rfl, by simp; omega, get_end rfl, by simp, by simp⟩
        · obtain ⟨⟨e, rfl⟩, ha⟩ := j
          have s7 := g.app s6 e
          have h2M7 := two _ s7
          simp only [wp, wx]
          have hx7 : RwL 2 7 26 (M6 ++ e ++ [Ob.lst acc]) acc := RwL.kp (M := M6 ++ e) ⟨by have := ha.1; simp [upto] at this; omega, ha.2⟩ (KpW.app _)
          exact ⟨_, _, rfl, _, acc, _, _, _, _, _, rfl, g.app s7 _, h2M7, get_end rfl, hx7⟩
      · obtain ⟨q, xs, y6, y10, y11, y12, y13, rfl, sA, hqA, gA, hxA⟩ := J
        simp only [wp, wx]
        refine g.w sA (n := 4) (by omega) (by omega) fun r4 M6 hr4 s6 f6 => ?_
        have k6 : KpW 2 M' M6 := KpW.fr hab f6
        simp only [wp, wx]
        refine ⟨rg_nat (by omega), ?_⟩
        rw [Int.toNat_natCast]
        refine wl_rg0 (fun i ρ' M' => ∃ q xs x6, ρ' = [some (.fl (ns.map .int)), some (.ref 1), some (.int (i0 : Int)), some (tM m), some (.tup (wD nm)), some (.ref q), x6, x7, x8, x9, y10, y11, y12, y13] ∧ S1 1 0 M' ∧ 2 ≤ q ∧ M'[q]? = some (.lst xs) ∧ RwL 2 (7 + i) (26 + i) M' xs) ⟨q, xs, _, rfl, s6, hqA, k6 q _ hqA gA, hxA.kp k6⟩ (fun i ρ' M' hi J => ?_) (fun ρ' M' J => ?_)
        · obtain ⟨q, xs, z6, rfl, sB, hqB, gB, hxB⟩ := J
          simp only [wp, wx, w_law_F1]
          refine lspoilt_w g hab (by omega) (by omega) (two _ sB) sB gB hqB hxB fun ys M'' L'' hy => ?_
          simp only [wp, wx]
          have h2 := two _ L''.s
          exact ⟨_, ys, _, rfl, g.app L''.s _, h2, get_end rfl, hy.kp (KpW.app _)⟩
        · obtain ⟨q, xs, z6, rfl, sB, hqB, gB, hxB⟩ := J
          obtain ⟨ps, W, e1, e2, e3, e4⟩ := RwL.rows (n := 26 + r4) hxB.2
          subst e1
          have hWl : W.length ≤ 29 := by have := hxB.1; simp at this; omega
          have hW10 : ∀ r ∈ W, okR 10 r := fun r hr => ⟨by have := (e4 r hr).1; omega, (e4 r hr).2⟩
          simp only [wp, wx]
          refine g.w sB (n := 3) (by omega) (by omega) fun r3 M7 hr3 s7 f7 => ?_
          have k7 : KpW 2 M' M7 := KpW.fr hab f7
          have hmul : ∀ M : Mem, mulF (.v (.str " ")) (.v (.int (1 + (r3 : Int)))) M = some (.v (.str (txtS (List.replicate (r3 + 1) 32))), M) := fun M => by
            rw [esp, show (1 : Int) + (r3 : Int) = ((r3 + 1 : Nat) : Int) by omega, txt_mul (by simp; omega) (by omega)]
            simp
          have gC := k7 q _ hqB gB
          have e7 : ∀ i (h1 : i < ps.length) (h2 : i < W.length), M7[ps[i]]? = some (.lst (wD W[i])) := fun i a b => by
            obtain ⟨p, ws, q1, q2, _⟩ := hxB.2 (D.ref ps[i]) (List.mem_map.mpr ⟨_, List.getElem_mem a, rfl⟩)
            injection q1 with q1
            exact k7 _ _ (by omega) (e3 i a b)
          have hR : RowsAt M7 q W := ⟨ps, gC, e2, e7⟩
          have ez : ps.map D.ref = (ps.zip W).map fun p => D.ref p.1 := by
            rw [show (fun p : Nat × Row => D.ref p.1) = D.ref ∘ Prod.fst from rfl, ← List.map_map, List.map_fst_zip (by omega)]
          have srcC : srcOf (.v (.ref q)) M7 = some ⟨(ps.zip W).map fun p => D.ref p.1, [(q, .lst (ps.map D.ref))]⟩ := by rw [src_ref gC, ← ez]
          simp only [wp, wx, add_int, hmul, srcC, isT_str]
          refine wc_mapL3 (fun p : Nat × Row => D.ref p.1) (fun p => .str (txtS (joinT (List.replicate (r3 + 1) 32) p.2))) (ps.zip W) (chk_one gC) (fun p hp => ?_) ?_
          · obtain ⟨i, hi, rfl⟩ := List.getElem_of_mem hp
            rw [List.length_zip] at hi
            have hi1 : i < ps.length := by omega
            have hi2 : i < W.length := by omega
            simp only [List.getElem_zip]
            have hro := hW10 W[i] (List.getElem_mem hi2)
            have hsum : ∀ ws : List (List Nat), (∀ w ∈ ws, w.length ≤ 9) → (ws.map List.length).sum ≤ 9 * ws.length := by
              intro ws
              induction ws with
              | nil => intro _; simp
              | cons w ws ih =>
                intro h
                have h1 := h w List.mem_cons_self
                have h2 := ih fun v hv => h v (List.mem_cons_of_mem _ hv)
                simp; omega
            have h9 := hsum W[i] fun w hw => (hro.2 w hw).2.2.2.2
            have ej : joinF (.v (.str (txtS (List.replicate (r3 + 1) 32)))) (.v (.ref ps[i])) M7 = some (.v (.str (txtS (joinT (List.replicate (r3 + 1) 32) W[i]))), M7) := txt_join (ps := W[i]) (by simp only [seqOf, e7 i hi1 hi2]; rfl) (by
              have h3 := hro.1
              have : W[i].length * (List.replicate (r3 + 1) 32).length ≤ 10 * 3 := by rw [List.length_replicate]; exact Nat.mul_le_mul (by omega) (by omega)
              omega)
            simp only [wp, wx, w_law_E1, isT_str, ej]
            exact ⟨rfl, rfl⟩
          have ew : (ps.zip W).map (fun p : Nat × Row => D.str (txtS (joinT (List.replicate (r3 + 1) 32) p.2))) = (W.map (joinT (List.replicate (r3 + 1) 32))).map fun p => D.str (txtS p) := by
            rw [show (fun p : Nat × Row => D.str (txtS (joinT (List.replicate (r3 + 1) 32) p.2))) = (fun r : Row => D.str (txtS (joinT (List.replicate (r3 + 1) 32) r))) ∘ Prod.snd from rfl, ← List.map_map, List.map_snd_zip (by omega), List.map_map]
            rfl
          rw [ew]
          have hlen := txW_len (g := r3) hW10
          have hasc := txW_asc (g := r3) hW10
          have hl8 : (txW r3 W).length ≤ 8000 := by
            have : W.length * (10 * (10 + r3) + 1) ≤ 29 * 121 := Nat.mul_le_mul (by omega) (by omega)
            omega
          have ejj : joinF (.v (.str "\n")) (.o (.lst ((W.map (joinT (List.replicate (r3 + 1) 32))).map fun p => D.str (txtS p)))) M7 = some (.v (.str (txtS (txW r3 W))), M7) := by
            rw [enl]
            refine txt_join (ps := W.map (joinT (List.replicate (r3 + 1) 32))) rfl ?_
            have hsum : ∀ qs : List (List Nat), (∀ q ∈ qs, q.length ≤ 200) → (qs.map List.length).sum ≤ 200 * qs.length := by
              intro ws
              induction ws with
              | nil => intro _; simp
              | cons w ws ih =>
                intro h
                have h1 := h w List.mem_cons_self
                have h2 := ih fun v hv => h v (List.mem_cons_of_mem _ hv)
                simp; omega
            have h9 := hsum (W.map (joinT (List.replicate (r3 + 1) 32))) fun a ha => by
              obtain ⟨r, hr, rfl⟩ := List.mem_map.mp ha
              have h1 := (row_txt (g := r3) (hW10 r hr)).2.2.2
              have : 10 * (10 + r3) ≤ 200 := by omega
              omega
            simp at h9 ⊢
            omega
          have hdue := ldue_w (W := W) (by omega) (fun r hr w hw => ⟨((hW10 r hr).2 w hw).2.2.2.1, by have := ((hW10 r hr).2 w hw).2.2.2.2; omega⟩) hR
          have href := lrefused_w hasc hl8 M7
          rw [(due_txW hW10).1] at href
          simp only [wp, wx, ejj, hdue, href, same_refl 8 _ _ (pu_du 5)]
          have fin : S1 1 0 M7 ∧ ∃ x2 x3 x4 x5 x6 x7 x8 x9 x10 x11 x12 x13, [some (D.fl (ns.map .int)), some (.ref 1), some (.int (i0 : Int)), some (tM m), some (.tup (wD nm)), some (.ref q), z6, some (.str (txtS (List.replicate (r3 + 1) 32))), some (.str (txtS (txW r3 W))), some (duD (dueN W)), y10, y11, y12, y13] = [some (.fl (ns.map .int)), some (.ref 1), x2, x3, x4, x5, x6, x7, x8, x9, x10, x11, x12, x13] := ⟨s7, _, _, _, _, _, _, _, _, _, _, _, _, rfl⟩
          cases hd : dueN W with
          | some z =>
            obtain ⟨i, f⟩ := z
            rw [hd] at fin
            have ei : isF false (.v (duD (some (i, f)))) (.v .non) M7 = some (.v (.bl false), M7) := rfl
            simp only [ei, wp, wx]
            exact fin
          | none =>
            rw [hd] at fin
            have ei : isF false (.v (duD none)) (.v .non) M7 = some (.v (.bl true), M7) := rfl
            simp only [ei, wp, wx]
            rw [wo_okFn]
            refine read_x hasc hl8 (fun _ => ?_) (fun i f h => ?_)
            · rw [(due_txW hW10).2]
              have hk := due_none hd
              have hA : ∀ r ∈ full W, ∀ w ∈ r, Asc w := fun r hr w hw => ((hW10 r (List.mem_filter.mp hr).1).2 w hw).2.2.2.1
              have hto := ltold_w (W := W) (fun r hr w hw => ((hW10 r hr).2 w hw).2.2.2.1) hk hR
              have pu2 : pu 8 (.tup [tM (mofN (full W)), .tup (wD (headsN (full W)))]) = true := by
                have hp : pu 7 (.tup (wD (headsN (full W)))) = true := by
                  simp only [pu, puL_iff]
                  intro d hd
                  obtain ⟨w, hw, rfl⟩ := List.mem_map.mp hd
                  obtain ⟨r, hr, rfl⟩ := List.mem_map.mp hw
                  refine asc_ok ?_
                  have hne := full_ne r hr
                  cases r with
                  | nil => exact absurd rfl hne
                  | cons w ws => exact hA _ hr w (by simp)
                simp only [pu, puL, pu_mach 4 (mofN (full W)), Bool.true_and, Bool.and_true]
                simpa [pu] using hp
              simp only [kOk, wp, wx, hto, same_refl 8 _ _ pu2]
              exact fin
            · rw [(due_txW hW10).1, hd] at h
              cases h
  · obtain ⟨sM, x2, x3, x4, x5, x6, x7, x8, x9, x10, x11, x12, x13, rfl⟩ := j
    have r1 := lrefused_w (t := []) (fun c hc => by simp at hc) (by simp) M
    have r2 := lrefused_w (t := [10, 32, 32, 10]) (fun c hc => by simp at hc; omega) (by simp) M
    have d1 : duD (dueN (rowsX [])) = .tup [.int 1, .str "none"] := rfl
    have d2 : duD (dueN (rowsX [10, 32, 32, 10])) = .tup [.int 3, .str "none"] := rfl
    have pn : ∀ i : Int, pu 8 (.tup [.int i, .str "none"]) = true := fun i => by
      have : PyData.strOk (Str.ofString "none") = true := by kernel_rfl
      simp [pu, puL, this]
    simp only [wp, wx, enn, en3, r1, r2, d1, d2, same_refl 8 _ _ (pn _)]
    exact law_fin rfl
def topS (i : Nat) : Stmt := PySem.Challenge.pw_bringhome_k08_machines_refused.main.body.getD i (.Pass ⟨0, 0, 0, 0⟩)
abbrev i_NoMachine : Stmt := clsMeth (topS 2) 0
theorem sci_NoMachine : FnScope ["self", "row", "word"] ["self", "row", "word"] (defScope i_NoMachine) := ⟨rfl, rfl, rfl, by decide +kernel, rfl, by decide +kernel, by decide +kernel⟩
theorem xcl_NoMachine {K : PySem.W.Frag} {mg : Str → Option Value} {C CH fI : Addr} {fd : FuncData} (gm : mg "NoMachine" = some (.ref C)) (gh : mg "HomeError" = some (.ref CH)) (B : BaseI K CH) (T : OexC K C) (iC : PySem.W.findIn K (.ref C) "__init__" = some (some (.ref fI))) (tI : PySem.W.typeIn K (.ref fI) = some (.type "function")) (F : Fun K "__init__" "NoMachine.__init__" i_NoMachine fI fd) (n1 : PySem.W.findIn K (.ref C) "row" = some none) (n2 : PySem.W.findIn K (.ref C) "word" = some none) :
    ∀ (P : Program) (w : World) (base : Heap), XCls P w K mg base "NoMachine" ["self", "row", "word"] (spI2 "row" "word") := fun P w base => xcls2 (txt := "a text that writes no machine") gm T iC tI F sci_NoMachine (F.binds (ps := ["self", "row", "word"]) fun _ _ _ _ _ _ us hl => match us, hl with | [_, _, _], _ => rfl) n1 n2 fun cdv A outer s H E =>
    (pss_cons (ps_expr (pe_cinit rfl gh B (pa_cons (pv 0) (pa_cons pe_str pa_nil)))) (pss_cons (ps_ost (pv 0) (pv 1)) (pss_one (ps_ost (pv 0) (pv 2)))))

abbrev s__law_same : Stmt := topS 22
theorem sc__law_same : FnScope ["_law_found", "_law_due_here", "_law_one", "_law_other"] ["_law_found", "_law_due_here"] (defScope s__law_same) := ⟨rfl, rfl, rfl, by decide +kernel, rfl, by decide +kernel, by decide +kernel⟩

abbrev s_machine_of : Stmt := topS 14
theorem sc_machine_of : FnScope ["rows", "names", "words", "word"] ["rows"] (defScope s_machine_of) := ⟨rfl, rfl, rfl, by decide +kernel, rfl, by decide +kernel, by decide +kernel⟩

abbrev s_first_unknown : Stmt := topS 13
theorem sc_first_unknown : FnScope ["rows", "names", "place", "words", "word"] ["rows"] (defScope s_first_unknown) := ⟨rfl, rfl, rfl, by decide +kernel, rfl, by decide +kernel, by decide +kernel⟩

abbrev s_is_name : Stmt := topS 10
theorem sc_is_name : FnScope ["thing", "sign"] ["thing"] (defScope s_is_name) := ⟨rfl, rfl, rfl, by decide +kernel, rfl, by decide +kernel, by decide +kernel⟩

abbrev s_row_fault : Stmt := topS 12
theorem sc_row_fault : FnScope ["words", "ahead", "many", "other", "word"] ["words", "ahead"] (defScope s_row_fault) := ⟨rfl, rfl, rfl, by decide +kernel, rfl, by decide +kernel, by decide +kernel⟩

abbrev s_words_in : Stmt := topS 11
theorem sc_words_in : FnScope ["row", "word"] ["row"] (defScope s_words_in) := ⟨rfl, rfl, rfl, by decide +kernel, rfl, by decide +kernel, by decide +kernel⟩

abbrev s_read_machine : Stmt := topS 15
theorem sc_read_machine : FnScope ["text", "places", "rows", "lines", "unknown", "place", "line", "words", "fault"] ["text"] (defScope s_read_machine) := ⟨rfl, rfl, rfl, by decide +kernel, rfl, by decide +kernel, by decide +kernel⟩

abbrev s__law_refused : Stmt := topS 28
theorem sc__law_refused : FnScope ["_law_text", "_law_told_here", "e"] ["_law_text"] (defScope s__law_refused) := ⟨rfl, rfl, rfl, by decide +kernel, rfl, by decide +kernel, by decide +kernel⟩

abbrev s__law_told : Stmt := topS 26
theorem sc__law_told : FnScope ["_law_lines", "_law_rows", "_law_heads", "_law_words", "_law_word"] ["_law_lines"] (defScope s__law_told) := ⟨rfl, rfl, rfl, by decide +kernel, rfl, by decide +kernel, by decide +kernel⟩

abbrev s__law_is_name : Stmt := topS 23
theorem sc__law_is_name : FnScope ["_law_word", "_law_sign"] ["_law_word"] (defScope s__law_is_name) := ⟨rfl, rfl, rfl, by decide +kernel, rfl, by decide +kernel, by decide +kernel⟩

abbrev s__law_fault : Stmt := topS 24
theorem sc__law_fault : FnScope ["_law_words", "_law_ahead", "_law_other", "_law_word"] ["_law_words", "_law_ahead"] (defScope s__law_fault) := ⟨rfl, rfl, rfl, by decide +kernel, rfl, by decide +kernel, by decide +kernel⟩

abbrev s__law_due : Stmt := topS 25
theorem sc__law_due : FnScope ["_law_lines", "_law_ahead", "_law_heads", "_law_place", "_law_words", "_law_fault_here", "_law_word"] ["_law_lines"] (defScope s__law_due) := ⟨rfl, rfl, rfl, by decide +kernel, rfl, by decide +kernel, by decide +kernel⟩

abbrev s__law_next : Stmt := topS 18
theorem sc__law_next : FnScope ["_law_state", "_law_many", "_law_digit"] ["_law_state", "_law_many"] (defScope s__law_next) := ⟨rfl, rfl, rfl, by decide +kernel, rfl, by decide +kernel, by decide +kernel⟩

abbrev s__law_spoilt : Stmt := topS 27
theorem sc__law_spoilt : FnScope ["_law_state", "_law_lines", "_law_at", "_law_words", "_law_spot", "_law_other", "_law_odd", "_law_way"] ["_law_state", "_law_lines"] (defScope s__law_spoilt) := ⟨rfl, rfl, rfl, by decide +kernel, rfl, by decide +kernel, by decide +kernel⟩

abbrev s__law_names : Stmt := topS 21
theorem sc__law_names : FnScope ["_law_state", "_law_many", "_law_letters", "_law_base", "_law_size", "_law_at", "_law_first", "_law_found", "_law_k", "_law_sign"] ["_law_state", "_law_many"] (defScope s__law_names) := ⟨rfl, rfl, rfl, by decide +kernel, rfl, by decide +kernel, by decide +kernel⟩

abbrev s__law_goal : Stmt := topS 19
theorem sc__law_goal : FnScope ["_law_state", "_law_family", "_law_rooms", "_law_room", "_law_letter", "_law_half"] ["_law_state", "_law_family", "_law_rooms", "_law_room", "_law_letter"] (defScope s__law_goal) := ⟨rfl, rfl, rfl, by decide +kernel, rfl, by decide +kernel, by decide +kernel⟩

abbrev s__law_machine : Stmt := topS 20
theorem sc__law_machine : FnScope ["_law_state", "_law_most", "_law_letters_most", "_law_rooms", "_law_letters", "_law_family", "_law_rows", "_law_room", "_law_letter"] ["_law_state", "_law_most", "_law_letters_most"] (defScope s__law_machine) := ⟨rfl, rfl, rfl, by decide +kernel, rfl, by decide +kernel, by decide +kernel⟩

abbrev s__law_begin : Stmt := topS 17
theorem sc__law_begin : FnScope ["_law_script", "_law_seed", "_law_cell"] ["_law_script"] (defScope s__law_begin) := ⟨rfl, rfl, rfl, by decide +kernel, rfl, by decide +kernel, by decide +kernel⟩

abbrev s_law : Stmt := topS 29
theorem sc_law : FnScope ["_law_script", "_law_state", "_law_turn", "_law_machine_here", "_law_names_here", "_law_lines", "_law_k", "_law_gap", "_law_text", "_law_due_here", "_law_name", "_law_row", "_law_words", "_law_goal_here"] ["_law_script"] (defScope s_law) := ⟨rfl, rfl, rfl, by decide +kernel, rfl, by decide +kernel, by decide +kernel⟩

structure Top (K : PySem.W.Frag) (mg : Str → Option Value) : Prop where
  d__law_same : Df K mg "_law_same" s__law_same
  d_machine_of : Df K mg "machine_of" s_machine_of
  d_first_unknown : Df K mg "first_unknown" s_first_unknown
  d_is_name : Df K mg "is_name" s_is_name
  d_row_fault : Df K mg "row_fault" s_row_fault
  d_words_in : Df K mg "words_in" s_words_in
  d_read_machine : Df K mg "read_machine" s_read_machine
  d__law_refused : Df K mg "_law_refused" s__law_refused
  d__law_told : Df K mg "_law_told" s__law_told
  d__law_is_name : Df K mg "_law_is_name" s__law_is_name
  d__law_fault : Df K mg "_law_fault" s__law_fault
  d__law_due : Df K mg "_law_due" s__law_due
  d__law_next : Df K mg "_law_next" s__law_next
  d__law_spoilt : Df K mg "_law_spoilt" s__law_spoilt
  d__law_names : Df K mg "_law_names" s__law_names
  d__law_goal : Df K mg "_law_goal" s__law_goal
  d__law_machine : Df K mg "_law_machine" s__law_machine
  d__law_begin : Df K mg "_law_begin" s__law_begin
  b_ValueError : mg "ValueError" = none
  b_abs : mg "abs" = none
  b_all : mg "all" = none
  b_bool : mg "bool" = none
  b_enumerate : mg "enumerate" = none
  b_int : mg "int" = none
  b_isinstance : mg "isinstance" = none
  b_len : mg "len" = none
  b_list : mg "list" = none
  b_max : mg "max" = none
  b_range : mg "range" = none
  b_str : mg "str" = none
  b_tuple : mg "tuple" = none
  b_zip : mg "zip" = none
  c_LETTERS : ∃ t, mg "LETTERS" = some (.str k_LETTERS t)
  c_MOST_LETTERS : ∃ t, mg "MOST_LETTERS" = some (.int 6 t)
  c_MOST_ROOMS : ∃ t, mg "MOST_ROOMS" = some (.int 26 t)
  c_MOST_SIGNS : ∃ t, mg "MOST_SIGNS" = some (.int 8 t)
  x_NoMachine : ∀ (P : Program) (w : World) (base : Heap), XCls P w K mg base "NoMachine" ["self", "row", "word"] (spI2 "row" "word")
  q_NoMachine : XQ K mg "HomeError" "NoMachine" "NoWord" "NoSheet"
  qf_NoMachine : XF K mg "NoMachine" "row" "word"
section
variable {P : Program} {w : World} {K : PySem.W.Frag} {mg : Str → Option Value} {base : Heap}
theorem ok__law_same (T : Top K mg) : ∀ n : Nat, Callee P w K mg base (1 + n) "_law_same" 2 (m__law_same n)
  | 0 => mkC (k := 0) T.d__law_same sc__law_same rfl rfl (fun _ _ _ _ _ _ us hl => match us, hl with | [_, _], _ => rfl) fun f cdv A outer s H E hr => ss_none
  | n + 1 => have ih := ok__law_same T n; mkC (k := 1 + n) T.d__law_same sc__law_same rfl rfl (fun _ _ _ _ _ _ us hl => match us, hl with | [_, _], _ => rfl) fun f cdv A outer s H E hr =>
    (ss_cons (ss_if (t_val (isi_ .tuple T.b_isinstance (bt_ (t := .tuple) T.b_tuple) (v_ 1))) (ss_cons (ss_if (t_w (w_or (t_not (t_val (isi_ .tuple T.b_isinstance (bt_ (t := .tuple) T.b_tuple) (v_ 0)))) (w_or1 (t_ne hr (len_ T.b_len (v_ 0)) (len_ T.b_len (v_ 1)))))) (ss_one (ss_ret cb_)) ss_nil)
    (ss_one (ss_ret (all_ T.b_all (se_comp (t := (.tp [2, 3])) (pe_lc (own := [("_law_one", 2), ("_law_other", 3)]) rfl sc__law_same.nd (zip_ T.b_zip (v_ 0) (v_ 1)) (blkOk_by (own := [("_law_one", 2), ("_law_other", 3)]) (by kernel_rfl)) (fun _ _ _ _ _ => (pg_tup rfl (pgs_cons (nm_ 2 sc__law_same.nd) (pgs_cons (nm_ 3 sc__law_same.nd) pgs_nil)))) (fun _ _ _ _ _ => sts_nil) (fun _ _ _ _ _ => (call_ ih hr (Nat.le_refl _) (a1 (v_ 2) (a1 (v_ 3) a0))))) (by decide)))))) ss_nil)
    (ss_cons (ss_if (t_is (v_ 1) cn) (ss_one (ss_ret (is_ (v_ 0) cn))) ss_nil)
    (ss_cons (ss_if (t_val (isi_ .bool T.b_isinstance (bt_ (t := .bool) T.b_bool) (v_ 1))) (ss_one (ss_ret (and_ (isi_ .bool T.b_isinstance (bt_ (t := .bool) T.b_bool) (v_ 0)) (one_ (eq_ hr (v_ 0) (v_ 1)))))) ss_nil)
    (ss_cons (ss_if (t_val (isi_ .str T.b_isinstance (bt_ (t := .str) T.b_str) (v_ 1))) (ss_one (ss_ret (and_ (isi_ .str T.b_isinstance (bt_ (t := .str) T.b_str) (v_ 0)) (one_ (eq_ hr (v_ 0) (v_ 1)))))) ss_nil)
    (ss_one (ss_ret (and_ (isi_ .int T.b_isinstance (bt_ (t := .int) T.b_int) (v_ 0)) (and_ (not_ (isi_ .bool T.b_isinstance (bt_ (t := .bool) T.b_bool) (v_ 0))) (one_ (eq_ hr (v_ 0) (v_ 1)))))))))))

theorem ok_machine_of (T : Top K mg) : Callee P w K mg base 1 "machine_of" 1 m_machine_of := mkC (k := 0) T.d_machine_of sc_machine_of rfl rfl (fun _ _ _ _ _ _ us hl => match us, hl with | [_], _ => rfl) fun f cdv A outer s H E hr =>
    (ss_cons (ss_set (ps_set (i := 1) sc_machine_of.nd rfl (.inr rfl) (tuple_ T.b_tuple (se_comp (t := (.nm 2)) (pe_lc (own := [("words", 2)]) rfl sc_machine_of.nd (we (v_ 0)) (blkOk_by (own := [("words", 2)]) (by kernel_rfl)) (fun _ _ _ _ _ => (nm_ 2 sc_machine_of.nd)) (fun _ _ _ _ _ => sts_nil) (fun _ _ _ _ _ => (ix_ (v_ 2) ci))) (by decide)))))
    (ss_one (ss_ret (tup_ (a1 (tuple_ T.b_tuple (se_comp (t := (.nm 2)) (pe_lc (own := [("words", 2)]) rfl sc_machine_of.nd (we (v_ 0)) (blkOk_by (own := [("words", 2)]) (by kernel_rfl)) (fun _ _ _ _ _ => (nm_ 2 sc_machine_of.nd)) (fun _ _ _ _ _ => sts_nil) (fun _ _ _ _ _ => (tuple_ T.b_tuple (se_comp (t := (.nm 3)) (pe_lc (own := [("word", 3)]) rfl sc_machine_of.nd (we (sl_ (v_ 2) (o1 ci) o0)) (blkOk_by (own := [("word", 3)]) (by kernel_rfl)) (fun _ _ _ _ _ => (nm_ 3 sc_machine_of.nd)) (fun _ _ _ _ _ => sts_nil) (fun _ _ _ _ _ => (se_idxT (pe_tm PySem.F.slot_tuple_index PySem.F.type_tuple_index mt_idxT (v_ 1) (pa1 (v_ 3)))))) (by decide))))) (by decide))) (a1 (v_ 1) a0))))))

theorem ok_first_unknown (T : Top K mg) : Callee P w K mg base 1 "first_unknown" 1 m_first_unknown := mkC (k := 0) T.d_first_unknown sc_first_unknown rfl rfl (fun _ _ _ _ _ _ us hl => match us, hl with | [_], _ => rfl) fun f cdv A outer s H E hr =>
    (ss_cons (ss_set (ps_set (i := 1) sc_first_unknown.nd rfl (.inr rfl) (se_comp (t := (.nm 3)) (pe_lc (own := [("words", 3)]) rfl sc_first_unknown.nd (we (v_ 0)) (blkOk_by (own := [("words", 3)]) (by kernel_rfl)) (fun _ _ _ _ _ => (nm_ 3 sc_first_unknown.nd)) (fun _ _ _ _ _ => sts_nil) (fun _ _ _ _ _ => (ix_ (v_ 3) ci))) (by decide))))
    (ss_cons (ss_for (ps_for PassesOwn.never rfl (enum_ T.b_enumerate (v_ 0)) (sg_tup (pg_tup rfl (pgs_cons (nm_ 2 sc_first_unknown.nd) (pgs_cons (nm_ 3 sc_first_unknown.nd) pgs_nil))) rfl) (ss_one (ss_if (t_not (t_val (all_ T.b_all (se_comp (t := (.nm 4)) (pe_lc (own := [("word", 4)]) rfl sc_first_unknown.nd (we (v_ 3)) (blkOk_by (own := [("word", 4)]) (by kernel_rfl)) (fun _ _ _ _ _ => (nm_ 4 sc_first_unknown.nd)) (fun _ _ _ _ _ => sts_nil) (fun _ _ _ _ _ => (in_ hr (v_ 4) (v_ 1)))) (by decide))))) (ss_one (ss_ret (v_ 2))) ss_nil))))
    (ss_one (ss_ret cn))))

theorem ok_is_name (T : Top K mg) : Callee P w K mg base 1 "is_name" 1 m_is_name := mkC (k := 0) T.d_is_name sc_is_name rfl rfl (fun _ _ _ _ _ _ us hl => match us, hl with | [_], _ => rfl) fun f cdv A outer s H E hr =>
    (ss_one (ss_ret (and_ (isi_ .str T.b_isinstance (bt_ (t := .str) T.b_str) (v_ 0)) (and_ (ch_ op_le op_le cmpU cmpU ci (len_ T.b_len (v_ 0)) (gi_ T.c_MOST_SIGNS.choose_spec)) (one_ (all_ T.b_all (se_comp (t := (.nm 1)) (pe_lc (own := [("sign", 1)]) rfl sc_is_name.nd (we (v_ 0)) (blkOk_by (own := [("sign", 1)]) (by kernel_rfl)) (fun _ _ _ _ _ => (nm_ 1 sc_is_name.nd)) (fun _ _ _ _ _ => sts_nil) (fun _ _ _ _ _ => (in_ hr (v_ 1) (gs_ T.c_LETTERS.choose_spec)))) (by decide))))))))

theorem ok_row_fault (T : Top K mg) : Callee P w K mg base 2 "row_fault" 2 m_row_fault := mkC (k := 1) T.d_row_fault sc_row_fault rfl rfl (fun _ _ _ _ _ _ us hl => match us, hl with | [_, _], _ => rfl) fun f cdv A outer s H E hr =>
    (ss_cons (ss_if (t_not (t_val (all_ T.b_all (se_comp (t := (.nm 4)) (pe_lc (own := [("word", 4)]) rfl sc_row_fault.nd (we (v_ 0)) (blkOk_by (own := [("word", 4)]) (by kernel_rfl)) (fun _ _ _ _ _ => (nm_ 4 sc_row_fault.nd)) (fun _ _ _ _ _ => sts_nil) (fun _ _ _ _ _ => (call_ (ok_is_name T) hr (by decide) (a1 (v_ 4) a0)))) (by decide))))) (ss_one (ss_ret cs)) ss_nil)
    (ss_cons (ss_set (ps_set (i := 2) sc_row_fault.nd rfl (.inl rfl) (sub_ (len_ T.b_len (v_ 0)) ci)))
    (ss_cons (ss_if (t_w (w_or (t_not (t_ch op_le op_le cmpU cmpU ci (v_ 2) (gi_ T.c_MOST_LETTERS.choose_spec))) (w_or1 (t_w (w_and (t_gt (len_ T.b_len (v_ 1)) ci) (w_and1 (t_ne hr (v_ 2) (sub_ (len_ T.b_len (ix_ (v_ 1) ci)) ci)))))))) (ss_one (ss_ret cs)) ss_nil)
    (ss_cons (ss_if (t_in hr (ix_ (v_ 0) ci) (se_comp (t := (.nm 3)) (pe_lc (own := [("other", 3)]) rfl sc_row_fault.nd (we (v_ 1)) (blkOk_by (own := [("other", 3)]) (by kernel_rfl)) (fun _ _ _ _ _ => (nm_ 3 sc_row_fault.nd)) (fun _ _ _ _ _ => sts_nil) (fun _ _ _ _ _ => (ix_ (v_ 3) ci))) (by decide))) (ss_one (ss_ret cs)) ss_nil)
    (ss_cons (ss_if (t_ge (len_ T.b_len (v_ 1)) (gi_ T.c_MOST_ROOMS.choose_spec)) (ss_one (ss_ret cs)) ss_nil)
    (ss_one (ss_ret cn)))))))

theorem ok_words_in (T : Top K mg) : Callee P w K mg base 1 "words_in" 1 m_words_in := mkC (k := 0) T.d_words_in sc_words_in rfl rfl (fun _ _ _ _ _ _ us hl => match us, hl with | [_], _ => rfl) fun f cdv A outer s H E hr =>
    (ss_one (ss_ret (se_comp (t := (.nm 1)) (pe_lc (own := [("word", 1)]) rfl sc_words_in.nd (we (spl_ (pe_bm PySem.F.plainAttrs_str PySem.F.slot_str_split PySem.F.type_str_split mt_split (v_ 0) (pa1 cs)))) (blkOk_by (own := [("word", 1)]) (by kernel_rfl)) (fun _ _ _ _ _ => (nm_ 1 sc_words_in.nd)) (fun _ _ _ _ _ => (sts_one (t_ne hr (v_ 1) cs))) (fun _ _ _ _ _ => (v_ 1))) (by decide))))

theorem ok_read_machine (T : Top K mg) : CalleeX P w K mg base 4 "read_machine" 1 m_read_machine := mkCX (k := 3) T.d_read_machine sc_read_machine rfl rfl (fun _ _ _ _ _ _ us hl => match us, hl with | [_], _ => rfl) fun f cdv A outer s H E hr =>
    (sx_cons (sx_lift (ss_set (ps_set (i := 1) sc_read_machine.nd rfl (.inl rfl) (lst_ a0))))
    (sx_cons (sx_lift (ss_set (ps_set (i := 2) sc_read_machine.nd rfl (.inl rfl) (lst_ a0))))
    (sx_cons (sx_lift (ss_set (ps_set (i := 3) sc_read_machine.nd rfl (.inl rfl) (spl_ (pe_bm PySem.F.plainAttrs_str PySem.F.slot_str_split PySem.F.type_str_split mt_split (v_ 0) (pa1 cs))))))
    (sx_cons (sx_for (ps_for (passes_of rfl) rfl (enum_ T.b_enumerate (v_ 3)) (sg_tup (pg_tup rfl (pgs_cons (nm_ 5 sc_read_machine.nd) (pgs_cons (nm_ 6 sc_read_machine.nd) pgs_nil))) rfl) (sx_cons (sx_lift (ss_set (ps_set (i := 7) sc_read_machine.nd rfl (.inl rfl) (call_ (ok_words_in T) hr (by decide) (a1 (v_ 6) a0)))))
    (sx_one (sx_if (t_gt (len_ T.b_len (v_ 7)) ci) (sx_cons (sx_lift (ss_set (ps_set (i := 8) sc_read_machine.nd rfl (.inl rfl) (call_ (ok_row_fault T) hr (by decide) (a1 (v_ 7) (a1 (v_ 2) a0))))))
    (sx_cons (sx_if (t_isn (v_ 8) cn) (sx_one (sx_raise2 (T.x_NoMachine _ _ _) hr (by decide) rfl (takes_of rfl rfl rfl rfl) (a1 (v_ 5) (a1 (v_ 8) a0)))) (sxs_lift ss_nil))
    (sx_cons (sx_lift (ss_do (app_ (pe_bm PySem.F.plainAttrs_list PySem.F.slot_list_append PySem.F.type_list_append mt_append (v_ 1) (pa1 (v_ 5)))) (ps_expr (app_ (pe_bm PySem.F.plainAttrs_list PySem.F.slot_list_append PySem.F.type_list_append mt_append (v_ 1) (pa1 (v_ 5)))))))
    (sx_one (sx_lift (ss_do (app_ (pe_bm PySem.F.plainAttrs_list PySem.F.slot_list_append PySem.F.type_list_append mt_append (v_ 2) (pa1 (v_ 7)))) (ps_expr (app_ (pe_bm PySem.F.plainAttrs_list PySem.F.slot_list_append PySem.F.type_list_append mt_append (v_ 2) (pa1 (v_ 7))))))))))) (sxs_lift ss_nil))))))
    (sx_cons (sx_lift (ss_set (ps_set (i := 4) sc_read_machine.nd rfl (.inl rfl) (call_ (ok_first_unknown T) hr (by decide) (a1 (v_ 2) a0)))))
    (sx_cons (sx_if (t_isn (v_ 4) cn) (sx_one (sx_raise2 (T.x_NoMachine _ _ _) hr (by decide) rfl (takes_of rfl rfl rfl rfl) (a1 (ix_ (v_ 1) (v_ 4)) (a1 cs a0)))) (sxs_lift ss_nil))
    (sx_cons (sx_if (t_eq hr (len_ T.b_len (v_ 2)) ci) (sx_one (sx_raise2 (T.x_NoMachine _ _ _) hr (by decide) rfl (takes_of rfl rfl rfl rfl) (a1 (len_ T.b_len (v_ 3)) (a1 cs a0)))) (sxs_lift ss_nil))
    (sx_one (sx_lift (ss_ret (call_ (ok_machine_of T) hr (by decide) (a1 (v_ 2) a0))))))))))))

theorem ok__law_refused (T : Top K mg) : Callee P w K mg base 5 "_law_refused" 1 m__law_refused := mkC (k := 4) T.d__law_refused sc__law_refused rfl rfl (fun _ _ _ _ _ _ us hl => match us, hl with | [_], _ => rfl) fun f cdv A outer s H E hr =>
    (ss_cons (ss_set (ps_set (i := 1) sc__law_refused.nd rfl (.inl rfl) cn))
    (ss_cons (ss_tryPair T.q_NoMachine T.qf_NoMachine T.b_ValueError T.b_isinstance sc__law_refused.nd (fun W pn xe tk pa => by exact (sx_one (sx_do (ps_expr (callX_ (ok_read_machine T) hr (by decide) tk (a1 (v_ 0) a0)))))))
    (ss_one (ss_ret (v_ 1)))))

theorem ok__law_told (T : Top K mg) : Callee P w K mg base 1 "_law_told" 1 m__law_told := mkC (k := 0) T.d__law_told sc__law_told rfl rfl (fun _ _ _ _ _ _ us hl => match us, hl with | [_], _ => rfl) fun f cdv A outer s H E hr =>
    (ss_cons (ss_setComp (t := (.nm 3)) (ps_setLc (i := 1) (own := [("_law_words", 3)]) rfl sc__law_told.nd rfl rfl (sw_true rfl rfl rfl (by kernel_rfl)) (we (v_ 0)) (blkOk_by (own := [("_law_words", 3)]) (by kernel_rfl)) (fun _ _ _ _ _ => (nm_ 3 sc__law_told.nd)) (fun _ _ _ _ _ => (sts_one (t_ne hr (v_ 3) (lst_ a0)))) (fun _ _ _ _ _ => (v_ 3))) (by decide))
    (ss_cons (ss_set (ps_set (i := 2) sc__law_told.nd rfl (.inr rfl) (se_comp (t := (.nm 3)) (pe_lc (own := [("_law_words", 3)]) rfl sc__law_told.nd (we (v_ 1)) (blkOk_by (own := [("_law_words", 3)]) (by kernel_rfl)) (fun _ _ _ _ _ => (nm_ 3 sc__law_told.nd)) (fun _ _ _ _ _ => sts_nil) (fun _ _ _ _ _ => (ix_ (v_ 3) ci))) (by decide))))
    (ss_one (ss_ret (tup_ (a1 (tuple_ T.b_tuple (se_comp (t := (.nm 3)) (pe_lc (own := [("_law_words", 3)]) rfl sc__law_told.nd (we (v_ 1)) (blkOk_by (own := [("_law_words", 3)]) (by kernel_rfl)) (fun _ _ _ _ _ => (nm_ 3 sc__law_told.nd)) (fun _ _ _ _ _ => sts_nil) (fun _ _ _ _ _ => (tuple_ T.b_tuple (se_comp (t := (.nm 4)) (pe_lc (own := [("_law_word", 4)]) rfl sc__law_told.nd (we (sl_ (v_ 3) (o1 ci) o0)) (blkOk_by (own := [("_law_word", 4)]) (by kernel_rfl)) (fun _ _ _ _ _ => (nm_ 4 sc__law_told.nd)) (fun _ _ _ _ _ => sts_nil) (fun _ _ _ _ _ => (idxL_ (pe_bm PySem.F.plainAttrs_list PySem.F.slot_list_index PySem.F.type_list_index (mt_indexD (u65 hr)) (v_ 2) (pa1 (v_ 4)))))) (by decide))))) (by decide))) (a1 (tuple_ T.b_tuple (v_ 2)) a0)))))))

theorem ok__law_is_name (T : Top K mg) : Callee P w K mg base 1 "_law_is_name" 1 m__law_is_name := mkC (k := 0) T.d__law_is_name sc__law_is_name rfl rfl (fun _ _ _ _ _ _ us hl => match us, hl with | [_], _ => rfl) fun f cdv A outer s H E hr =>
    (ss_one (ss_ret (and_ (ch_ op_le op_le cmpU cmpU ci (len_ T.b_len (v_ 0)) ci) (one_ (all_ T.b_all (se_comp (t := (.nm 1)) (pe_lc (own := [("_law_sign", 1)]) rfl sc__law_is_name.nd (we (v_ 0)) (blkOk_by (own := [("_law_sign", 1)]) (by kernel_rfl)) (fun _ _ _ _ _ => (nm_ 1 sc__law_is_name.nd)) (fun _ _ _ _ _ => sts_nil) (fun _ _ _ _ _ => (in_ hr (v_ 1) cs))) (by decide)))))))

theorem ok__law_fault (T : Top K mg) : Callee P w K mg base 2 "_law_fault" 2 m__law_fault := mkC (k := 1) T.d__law_fault sc__law_fault rfl rfl (fun _ _ _ _ _ _ us hl => match us, hl with | [_, _], _ => rfl) fun f cdv A outer s H E hr =>
    (ss_cons (ss_if (t_not (t_val (all_ T.b_all (se_comp (t := (.nm 3)) (pe_lc (own := [("_law_word", 3)]) rfl sc__law_fault.nd (we (v_ 0)) (blkOk_by (own := [("_law_word", 3)]) (by kernel_rfl)) (fun _ _ _ _ _ => (nm_ 3 sc__law_fault.nd)) (fun _ _ _ _ _ => sts_nil) (fun _ _ _ _ _ => (call_ (ok__law_is_name T) hr (by decide) (a1 (v_ 3) a0)))) (by decide))))) (ss_one (ss_ret cs)) ss_nil)
    (ss_cons (ss_if (t_w (w_or (t_lt (len_ T.b_len (v_ 0)) ci) (w_or (t_gt (len_ T.b_len (v_ 0)) ci) (w_or1 (t_w (w_and (t_neE hr (v_ 1) (lst_ a0)) (w_and1 (t_ne hr (len_ T.b_len (ix_ (v_ 1) ci)) (len_ T.b_len (v_ 0)))))))))) (ss_one (ss_ret cs)) ss_nil)
    (ss_cons (ss_if (t_in hr (ix_ (v_ 0) ci) (se_comp (t := (.nm 2)) (pe_lc (own := [("_law_other", 2)]) rfl sc__law_fault.nd (we (v_ 1)) (blkOk_by (own := [("_law_other", 2)]) (by kernel_rfl)) (fun _ _ _ _ _ => (nm_ 2 sc__law_fault.nd)) (fun _ _ _ _ _ => sts_nil) (fun _ _ _ _ _ => (ix_ (v_ 2) ci))) (by decide))) (ss_one (ss_ret cs)) ss_nil)
    (ss_one (ss_ret (if_ (t_gt (len_ T.b_len (v_ 1)) ci) cs cs))))))

theorem ok__law_due (T : Top K mg) : Callee P w K mg base 3 "_law_due" 1 m__law_due := mkC (k := 2) T.d__law_due sc__law_due rfl rfl (fun _ _ _ _ _ _ us hl => match us, hl with | [_], _ => rfl) fun f cdv A outer s H E hr =>
    (ss_cons (ss_set (ps_set (i := 1) sc__law_due.nd rfl (.inl rfl) (lst_ a0)))
    (ss_cons (ss_for (ps_for PassesOwn.never rfl (enum_ T.b_enumerate (v_ 0)) (sg_tup (pg_tup rfl (pgs_cons (nm_ 3 sc__law_due.nd) (pgs_cons (nm_ 4 sc__law_due.nd) pgs_nil))) rfl) (ss_one (ss_if (t_ne hr (v_ 4) (lst_ a0)) (ss_cons (ss_set (ps_set (i := 5) sc__law_due.nd rfl (.inl rfl) (call_ (ok__law_fault T) hr (by decide) (a1 (v_ 4) (a1 (v_ 1) a0)))))
    (ss_cons (ss_if (t_ne hr (v_ 5) cs) (ss_one (ss_ret (tup_ (a1 (v_ 3) (a1 (v_ 5) a0))))) ss_nil)
    (ss_one (ss_do (app_ (pe_bm PySem.F.plainAttrs_list PySem.F.slot_list_append PySem.F.type_list_append mt_append (v_ 1) (pa1 (v_ 4)))) (ps_expr (app_ (pe_bm PySem.F.plainAttrs_list PySem.F.slot_list_append PySem.F.type_list_append mt_append (v_ 1) (pa1 (v_ 4))))))))) ss_nil))))
    (ss_cons (ss_set (ps_set (i := 2) sc__law_due.nd rfl (.inr rfl) (se_comp (t := (.nm 4)) (pe_lc (own := [("_law_words", 4)]) rfl sc__law_due.nd (we (v_ 1)) (blkOk_by (own := [("_law_words", 4)]) (by kernel_rfl)) (fun _ _ _ _ _ => (nm_ 4 sc__law_due.nd)) (fun _ _ _ _ _ => sts_nil) (fun _ _ _ _ _ => (ix_ (v_ 4) ci))) (by decide))))
    (ss_cons (ss_for (ps_for PassesOwn.never rfl (enum_ T.b_enumerate (v_ 0)) (sg_tup (pg_tup rfl (pgs_cons (nm_ 3 sc__law_due.nd) (pgs_cons (nm_ 4 sc__law_due.nd) pgs_nil))) rfl) (ss_one (ss_if (t_ne hr (se_comp (t := (.nm 6)) (pe_lc (own := [("_law_word", 6)]) rfl sc__law_due.nd (we (v_ 4)) (blkOk_by (own := [("_law_word", 6)]) (by kernel_rfl)) (fun _ _ _ _ _ => (nm_ 6 sc__law_due.nd)) (fun _ _ _ _ _ => (sts_one (t_nin hr (v_ 6) (v_ 2)))) (fun _ _ _ _ _ => (v_ 6))) (by decide)) (lst_ a0)) (ss_one (ss_ret (tup_ (a1 (v_ 3) (a1 cs a0))))) ss_nil))))
    (ss_cons (ss_if (t_eqE hr (v_ 1) (lst_ a0)) (ss_one (ss_ret (tup_ (a1 (max2_ T.b_max ci (len_ T.b_len (v_ 0))) (a1 cs a0))))) ss_nil)
    (ss_one (ss_ret cn)))))))

theorem ok__law_next (T : Top K mg) : Callee P w K mg base 1 "_law_next" 2 m__law_next := mkC (k := 0) T.d__law_next sc__law_next rfl rfl (fun _ _ _ _ _ _ us hl => match us, hl with | [_, _], _ => rfl) fun f cdv A outer s H E hr =>
    (ss_cons (ss_while (ps_while PassesOwn.never (t_w (w_and (t_ne hr (ix_ (v_ 0) ci) (lst_ a0)) (w_and1 (t_eq hr (ix_ (ix_ (v_ 0) ci) ci) ci)))) (ss_one (ss_do (pop_ (pe_bm PySem.F.plainAttrs_list PySem.F.slot_list_pop PySem.F.type_list_pop mt_popAt (ix_ (v_ 0) ci) (pa1 ci))) (ps_expr (pop_ (pe_bm PySem.F.plainAttrs_list PySem.F.slot_list_pop PySem.F.type_list_pop mt_popAt (ix_ (v_ 0) ci) (pa1 ci))))))))
    (ss_cons (ss_if (t_ne hr (ix_ (v_ 0) ci) (lst_ a0)) (ss_cons (ss_set (ps_set (i := 2) sc__law_next.nd rfl (.inl rfl) (mod_ (ix_ (ix_ (v_ 0) ci) ci) (v_ 1))))
    (ss_cons (ss_put (ps_asg (div_ (ix_ (ix_ (v_ 0) ci) ci) (v_ 1)) (sg_ix (pg_sub (ix_ (v_ 0) ci) ci set_list))))
    (ss_one (ss_ret (v_ 2))))) ss_nil)
    (ss_cons (ss_put (ps_asg (mod_ (add_ (mul_ (ix_ (v_ 0) ci) ci) ci) ci) (sg_ix (pg_sub (v_ 0) ci set_list))))
    (ss_one (ss_ret (mod_ (div_ (mod_ (mul_ (ix_ (v_ 0) ci) (ix_ (v_ 0) ci)) ci) ci) (v_ 1)))))))

theorem ok__law_spoilt (T : Top K mg) : Callee P w K mg base 2 "_law_spoilt" 2 m__law_spoilt := mkC (k := 1) T.d__law_spoilt sc__law_spoilt rfl rfl (fun _ _ _ _ _ _ us hl => match us, hl with | [_, _], _ => rfl) fun f cdv A outer s H E hr =>
    (ss_cons (ss_if (t_eqE hr (v_ 1) (lst_ a0)) (ss_one (ss_ret (lst_ (a1 (lst_ (a1 cs a0)) a0)))) ss_nil)
    (ss_cons (ss_set (ps_set (i := 2) sc__law_spoilt.nd rfl (.inl rfl) (call_ (ok__law_next T) hr (by decide) (a1 (v_ 0) (a1 (len_ T.b_len (v_ 1)) a0)))))
    (ss_cons (ss_set (ps_set (i := 3) sc__law_spoilt.nd rfl (.inl rfl) (list_ T.b_list (ix_ (v_ 1) (v_ 2)))))
    (ss_cons (ss_set (ps_set (i := 4) sc__law_spoilt.nd rfl (.inl rfl) (call_ (ok__law_next T) hr (by decide) (a1 (v_ 0) (a1 (add_ (len_ T.b_len (v_ 3)) ci) a0)))))
    (ss_cons (ss_set (ps_set (i := 5) sc__law_spoilt.nd rfl (.inl rfl) (sl_ (ix_ (v_ 1) (call_ (ok__law_next T) hr (by decide) (a1 (v_ 0) (a1 (len_ T.b_len (v_ 1)) a0)))) o0 (o1 ci))))
    (ss_cons (ss_set (ps_set (i := 6) sc__law_spoilt.nd rfl (.inl rfl) (ix_ (lst_ (a1 cs (a1 cs (a1 cs (a1 cs (a1 cs (a1 cs (a1 cs (a1 cs a0))))))))) (call_ (ok__law_next T) hr (by decide) (a1 (v_ 0) (a1 ci a0))))))
    (ss_cons (ss_set (ps_set (i := 7) sc__law_spoilt.nd rfl (.inl rfl) (call_ (ok__law_next T) hr (by decide) (a1 (v_ 0) (a1 ci a0)))))
    (ss_cons (ss_if (t_lt (v_ 7) ci) (ss_one (ss_set (ps_set (i := 3) sc__law_spoilt.nd rfl (.inl rfl) (add_ (add_ (sl_ (v_ 3) o0 (o1 (v_ 4))) (ix_ (lst_ (a1 (lst_ (a1 (v_ 6) a0)) (a1 (v_ 5) (a1 (lst_ a0) a0)))) (v_ 7))) (sl_ (v_ 3) (o1 (add_ (v_ 4) ci)) o0))))) (ss_one (ss_if (t_lt (v_ 7) ci) (ss_one (ss_set (ps_set (i := 3) sc__law_spoilt.nd rfl (.inl rfl) (add_ (add_ (sl_ (v_ 3) o0 (o1 (v_ 4))) (lst_ (a1 (v_ 6) a0))) (sl_ (v_ 3) (o1 (v_ 4)) o0))))) (ss_one (ss_if (t_eq hr (v_ 7) ci) (ss_one (ss_ret (add_ (sl_ (v_ 1) o0 (o1 (v_ 2))) (sl_ (v_ 1) (o1 (add_ (v_ 2) ci)) o0)))) (ss_one (ss_if (t_eq hr (v_ 7) ci) (ss_one (ss_ret (add_ (add_ (sl_ (v_ 1) o0 (o1 (v_ 2))) (lst_ (a1 (ix_ (v_ 1) (v_ 2)) a0))) (sl_ (v_ 1) (o1 (v_ 2)) o0)))) (ss_one (ss_if (t_eq hr (v_ 7) ci) (ss_one (ss_ret (add_ (add_ (sl_ (v_ 1) o0 (o1 (v_ 2))) (lst_ (a1 (lst_ a0) a0))) (sl_ (v_ 1) (o1 (v_ 2)) o0)))) (ss_one (ss_ret (add_ (v_ 1) (lst_ (a1 (add_ (lst_ (a1 cs a0)) (sl_ (v_ 3) (o1 ci) o0)) a0))))))))))))))
    (ss_one (ss_ret (add_ (add_ (sl_ (v_ 1) o0 (o1 (v_ 2))) (lst_ (a1 (v_ 3) a0))) (sl_ (v_ 1) (o1 (add_ (v_ 2) ci)) o0))))))))))))

theorem ok__law_names (T : Top K mg) : Callee P w K mg base 2 "_law_names" 2 m__law_names := mkC (k := 1) T.d__law_names sc__law_names rfl rfl (fun _ _ _ _ _ _ us hl => match us, hl with | [_, _], _ => rfl) fun f cdv A outer s H E hr =>
    (ss_cons (ss_set (ps_set (i := 2) sc__law_names.nd rfl (.inl rfl) cs))
    (ss_cons (ss_set (ps_set (i := 3) sc__law_names.nd rfl (.inl rfl) (ix_ (v_ 2) (call_ (ok__law_next T) hr (by decide) (a1 (v_ 0) (a1 ci a0))))))
    (ss_cons (ss_set (ps_set (i := 4) sc__law_names.nd rfl (.inl rfl) (add_ ci (call_ (ok__law_next T) hr (by decide) (a1 (v_ 0) (a1 ci a0))))))
    (ss_cons (ss_set (ps_set (i := 5) sc__law_names.nd rfl (.inl rfl) (call_ (ok__law_next T) hr (by decide) (a1 (v_ 0) (a1 (v_ 4) a0)))))
    (ss_cons (ss_set (ps_set (i := 6) sc__law_names.nd rfl (.inl rfl) (call_ (ok__law_next T) hr (by decide) (a1 (v_ 0) (a1 ci a0)))))
    (ss_cons (ss_set (ps_set (i := 7) sc__law_names.nd rfl (.inl rfl) (lst_ a0)))
    (ss_cons (ss_for (ps_for PassesOwn.never rfl (rg1_ T.b_range (v_ 1)) (sg_name (nm_ 8 sc__law_names.nd)) (ss_one (ss_if (t_w (w_and (t_lt (v_ 1) ci) (w_and1 (t_gt (v_ 4) ci)))) (ss_one (ss_do (app_ (pe_bm PySem.F.plainAttrs_list PySem.F.slot_list_append PySem.F.type_list_append mt_append (v_ 7) (pa1 (mul_ (v_ 3) (add_ (v_ 8) ci))))) (ps_expr (app_ (pe_bm PySem.F.plainAttrs_list PySem.F.slot_list_append PySem.F.type_list_append mt_append (v_ 7) (pa1 (mul_ (v_ 3) (add_ (v_ 8) ci)))))))) (ss_cons (ss_set (ps_set (i := 9) sc__law_names.nd rfl (.inl rfl) (ix_ (v_ 2) (mod_ (add_ (v_ 6) (mul_ ci (v_ 8))) ci))))
    (ss_one (ss_do (app_ (pe_bm PySem.F.plainAttrs_list PySem.F.slot_list_append PySem.F.type_list_append mt_append (v_ 7) (pa1 (add_ (add_ (mul_ (v_ 3) (v_ 5)) (v_ 9)) (mul_ (v_ 3) (sub_ (sub_ (v_ 4) ci) (v_ 5))))))) (ps_expr (app_ (pe_bm PySem.F.plainAttrs_list PySem.F.slot_list_append PySem.F.type_list_append mt_append (v_ 7) (pa1 (add_ (add_ (mul_ (v_ 3) (v_ 5)) (v_ 9)) (mul_ (v_ 3) (sub_ (sub_ (v_ 4) ci) (v_ 5)))))))))))))))
    (ss_one (ss_ret (tuple_ T.b_tuple (v_ 7)))))))))))

theorem ok__law_goal (T : Top K mg) : Callee P w K mg base 2 "_law_goal" 5 m__law_goal := mkC (k := 1) T.d__law_goal sc__law_goal rfl rfl (fun _ _ _ _ _ _ us hl => match us, hl with | [_, _, _, _, _], _ => rfl) fun f cdv A outer s H E hr =>
    (ss_cons (ss_if (t_eq hr (v_ 1) ci) (ss_one (ss_ret (call_ (ok__law_next T) hr (by decide) (a1 (v_ 0) (a1 (v_ 2) a0))))) ss_nil)
    (ss_cons (ss_if (t_eq hr (v_ 1) ci) (ss_one (ss_ret (mod_ (add_ (v_ 3) (call_ (ok__law_next T) hr (by decide) (a1 (v_ 0) (a1 ci a0)))) (v_ 2)))) ss_nil)
    (ss_cons (ss_if (t_eq hr (v_ 1) ci) (ss_cons (ss_set (ps_set (i := 5) sc__law_goal.nd rfl (.inl rfl) (div_ (v_ 2) ci)))
    (ss_cons (ss_if (t_lt (v_ 3) (v_ 5)) (ss_one (ss_ret (call_ (ok__law_next T) hr (by decide) (a1 (v_ 0) (a1 (v_ 5) a0))))) ss_nil)
    (ss_one (ss_ret (add_ (v_ 5) (call_ (ok__law_next T) hr (by decide) (a1 (v_ 0) (a1 (sub_ (v_ 2) (v_ 5)) a0)))))))) ss_nil)
    (ss_cons (ss_if (t_eq hr (v_ 4) ci) (ss_one (ss_ret (mod_ (add_ (v_ 3) ci) (v_ 2)))) ss_nil)
    (ss_cons (ss_if (t_eq hr (v_ 1) ci) (ss_one (ss_ret (ix_ (lst_ (a1 (v_ 3) (a1 ci a0))) (int_ T.b_int (eq_ hr (v_ 3) (sub_ (v_ 2) ci)))))) ss_nil)
    (ss_one (ss_ret (mod_ (add_ (add_ (v_ 3) ci) (mul_ (call_ (ok__law_next T) hr (by decide) (a1 (v_ 0) (a1 ci a0))) (sub_ (v_ 2) ci))) (v_ 2)))))))))

theorem ok__law_machine (T : Top K mg) : Callee P w K mg base 3 "_law_machine" 3 m__law_machine := mkC (k := 2) T.d__law_machine sc__law_machine rfl rfl (fun _ _ _ _ _ _ us hl => match us, hl with | [_, _, _], _ => rfl) fun f cdv A outer s H E hr =>
    (ss_cons (ss_set (ps_set (i := 3) sc__law_machine.nd rfl (.inr rfl) (add_ ci (call_ (ok__law_next T) hr (by decide) (a1 (v_ 0) (a1 (v_ 1) a0))))))
    (ss_cons (ss_set (ps_set (i := 4) sc__law_machine.nd rfl (.inl rfl) (add_ ci (call_ (ok__law_next T) hr (by decide) (a1 (v_ 0) (a1 (v_ 2) a0))))))
    (ss_cons (ss_set (ps_set (i := 5) sc__law_machine.nd rfl (.inr rfl) (call_ (ok__law_next T) hr (by decide) (a1 (v_ 0) (a1 ci a0)))))
    (ss_cons (ss_set (ps_set (i := 6) sc__law_machine.nd rfl (.inl rfl) (lst_ a0)))
    (ss_cons (ss_for (ps_for PassesOwn.never rfl (rg1_ T.b_range (v_ 3)) (sg_name (nm_ 7 sc__law_machine.nd)) (ss_one (ss_do (app_ (pe_bm PySem.F.plainAttrs_list PySem.F.slot_list_append PySem.F.type_list_append mt_append (v_ 6) (pa1 (tuple_ T.b_tuple (se_comp (t := (.nm 8)) (pe_lc (own := [("_law_letter", 8)]) rfl sc__law_machine.nd (rg1_ T.b_range (v_ 4)) (blkOk_by (own := [("_law_letter", 8)]) (by kernel_rfl)) (fun _ _ _ _ _ => (nm_ 8 sc__law_machine.nd)) (fun _ _ _ _ _ => sts_nil) (fun _ _ _ _ _ => (call_ (ok__law_goal T) hr (by decide) (a1 (v_ 0) (a1 (v_ 5) (a1 (v_ 3) (a1 (v_ 7) (a1 (v_ 8) a0)))))))) (by decide)))))) (ps_expr (app_ (pe_bm PySem.F.plainAttrs_list PySem.F.slot_list_append PySem.F.type_list_append mt_append (v_ 6) (pa1 (tuple_ T.b_tuple (se_comp (t := (.nm 8)) (pe_lc (own := [("_law_letter", 8)]) rfl sc__law_machine.nd (rg1_ T.b_range (v_ 4)) (blkOk_by (own := [("_law_letter", 8)]) (by kernel_rfl)) (fun _ _ _ _ _ => (nm_ 8 sc__law_machine.nd)) (fun _ _ _ _ _ => sts_nil) (fun _ _ _ _ _ => (call_ (ok__law_goal T) hr (by decide) (a1 (v_ 0) (a1 (v_ 5) (a1 (v_ 3) (a1 (v_ 7) (a1 (v_ 8) a0)))))))) (by decide)))))))))))
    (ss_one (ss_ret (tuple_ T.b_tuple (v_ 6)))))))))

theorem ok__law_begin (T : Top K mg) : Callee P w K mg base 1 "_law_begin" 1 m__law_begin := mkC (k := 0) T.d__law_begin sc__law_begin rfl rfl (fun _ _ _ _ _ _ us hl => match us, hl with | [_], _ => rfl) fun f cdv A outer s H E hr =>
    (ss_cons (ss_set (ps_set (i := 1) sc__law_begin.nd rfl (.inl rfl) (add_ (len_ T.b_len (v_ 0)) ci)))
    (ss_cons (ss_for (ps_for PassesOwn.never rfl (we (sl_ (v_ 0) o0 (o1 ci))) (sg_name (nm_ 2 sc__law_begin.nd)) (ss_one (ss_set (ps_set (i := 1) sc__law_begin.nd rfl (.inl rfl) (mod_ (add_ (add_ (mul_ (v_ 1) ci) (mod_ (v_ 2) (pow_ ci ci))) ci) ci))))))
    (ss_one (ss_ret (lst_ (a1 (se_comp (t := (.nm 2)) (pe_lc (own := [("_law_cell", 2)]) rfl sc__law_begin.nd (we (sl_ (v_ 0) o0 (o1 ci))) (blkOk_by (own := [("_law_cell", 2)]) (by kernel_rfl)) (fun _ _ _ _ _ => (nm_ 2 sc__law_begin.nd)) (fun _ _ _ _ _ => (sts_one (t_ge (abs_ T.b_abs (v_ 2)) (pow_ ci ci)))) (fun _ _ _ _ _ => (abs_ T.b_abs (v_ 2)))) (by decide)) (a1 (v_ 1) a0)))))))

theorem ok_law (T : Top K mg) {f : Addr} {fd : FuncData} (F : Fun K "law" "law" s_law f fd) : FnOk P w K mg base CX0 10 f fd ["_law_script"] (spF K 1 m_law) := okLaw (k := 9) F sc_law rfl rfl fun f cdv A outer s H E hr =>
    (ss_cons (ss_set (ps_set (i := 1) sc_law.nd rfl (.inl rfl) (call_ (ok__law_begin T) hr (by decide) (a1 (v_ 0) a0))))
    (ss_cons (ss_for (ps_for PassesOwn.never rfl (rg1_ T.b_range (add_ ci (len_ T.b_len (sl_ (v_ 0) o0 (o1 ci))))) (sg_name (nm_ 2 sc_law.nd)) (ss_cons (ss_set (ps_set (i := 3) sc_law.nd rfl (.inl rfl) (call_ (ok__law_machine T) hr (by decide) (a1 (v_ 1) (a1 ci (a1 ci a0))))))
    (ss_cons (ss_set (ps_set (i := 4) sc_law.nd rfl (.inr rfl) (call_ (ok__law_names T) hr (by decide) (a1 (v_ 1) (a1 (len_ T.b_len (v_ 3)) a0)))))
    (ss_cons (ss_setComp (t := (.tp [10, 11])) (ps_setLc (i := 5) (own := [("_law_name", 10), ("_law_row", 11)]) rfl sc_law.nd rfl rfl (sw_true rfl rfl rfl (by kernel_rfl)) (zip_ T.b_zip (v_ 4) (v_ 3)) (blkOk_by (own := [("_law_name", 10), ("_law_row", 11)]) (by kernel_rfl)) (fun _ _ _ _ _ => (pg_tup rfl (pgs_cons (nm_ 10 sc_law.nd) (pgs_cons (nm_ 11 sc_law.nd) pgs_nil)))) (fun _ _ _ _ _ => sts_nil) (fun _ _ _ _ _ => (add_ (lst_ (a1 (v_ 10) a0)) (se_comp (t := (.nm 13)) (pe_lc (own := [("_law_goal_here", 13)]) rfl sc_law.nd (we (v_ 11)) (blkOk_by (own := [("_law_goal_here", 13)]) (by kernel_rfl)) (fun _ _ _ _ _ => (nm_ 13 sc_law.nd)) (fun _ _ _ _ _ => sts_nil) (fun _ _ _ _ _ => (ix_ (v_ 4) (v_ 13)))) (by decide))))) (by decide))
    (ss_cons (ss_if (t_eq hr (call_ (ok__law_next T) hr (by decide) (a1 (v_ 1) (a1 ci a0))) ci) (ss_one (ss_setComp (t := (.nm 6)) (ps_setLc (i := 5) (own := [("_law_k", 6)]) rfl sc_law.nd rfl rfl (sw_true rfl rfl rfl (by kernel_rfl)) (rg1_ T.b_range (call_ (ok__law_next T) hr (by decide) (a1 (v_ 1) (a1 ci a0)))) (blkOk_by (own := [("_law_k", 6)]) (by kernel_rfl)) (fun _ _ _ _ _ => (nm_ 6 sc_law.nd)) (fun _ _ _ _ _ => sts_nil) (fun _ _ _ _ _ => (lst_ a0))) (by decide))) ss_nil)
    (ss_cons (ss_for (ps_for PassesOwn.never rfl (rg1_ T.b_range (call_ (ok__law_next T) hr (by decide) (a1 (v_ 1) (a1 ci a0)))) (sg_name (nm_ 6 sc_law.nd)) (ss_one (ss_set (ps_set (i := 5) sc_law.nd rfl (.inl rfl) (call_ (ok__law_spoilt T) hr (by decide) (a1 (v_ 1) (a1 (v_ 5) a0))))))))
    (ss_cons (ss_set (ps_set (i := 7) sc_law.nd rfl (.inr rfl) (mul_ cs (add_ ci (call_ (ok__law_next T) hr (by decide) (a1 (v_ 1) (a1 ci a0)))))))
    (ss_cons (ss_set (ps_set (i := 8) sc_law.nd rfl (.inl rfl) (join_ (pe_bm PySem.F.plainAttrs_str PySem.F.slot_str_join PySem.F.type_str_join mt_join cs (pa1 (se_comp (t := (.nm 12)) (pe_lc (own := [("_law_words", 12)]) rfl sc_law.nd (we (v_ 5)) (blkOk_by (own := [("_law_words", 12)]) (by kernel_rfl)) (fun _ _ _ _ _ => (nm_ 12 sc_law.nd)) (fun _ _ _ _ _ => sts_nil) (fun _ _ _ _ _ => (join_ (pe_bm PySem.F.plainAttrs_str PySem.F.slot_str_join PySem.F.type_str_join mt_join (v_ 7) (pa1 (v_ 12)))))) (by decide)))))))
    (ss_cons (ss_set (ps_set (i := 9) sc_law.nd rfl (.inl rfl) (call_ (ok__law_due T) hr (by decide) (a1 (v_ 5) a0))))
    (ss_cons (ss_if (t_not (t_val (call_ (ok__law_same T 8) hr (by decide) (a1 (call_ (ok__law_refused T) hr (by decide) (a1 (v_ 8) a0)) (a1 (v_ 9) a0))))) (ss_one (ss_ret cb_)) ss_nil)
    (ss_one (ss_if (t_w (w_and (t_is (v_ 9) cn) (w_and1 (t_not (t_val (call_ (ok__law_same T 8) hr (by decide) (a1 (callN_ (ok_read_machine T) hr (by decide) (a1 (v_ 8) a0)) (a1 (call_ (ok__law_told T) hr (by decide) (a1 (v_ 5) a0)) a0)))))))) (ss_one (ss_ret cb_)) ss_nil)))))))))))))
    (ss_one (ss_ret (and_ (call_ (ok__law_same T 8) hr (by decide) (a1 (call_ (ok__law_refused T) hr (by decide) (a1 cs a0)) (a1 (tup_ (a1 ci (a1 cs a0))) a0))) (one_ (call_ (ok__law_same T 8) hr (by decide) (a1 (call_ (ok__law_refused T) hr (by decide) (a1 cs a0)) (a1 (tup_ (a1 ci (a1 cs a0))) a0)))))))))

end
theorem all_mk {l : PySem.W.OpenLaw} {w : World} {K : PySem.W.Frag} {h : Heap} {mg : Str → Option Value} {fa : Addr} (X : K.In h) (G : h.Ns mainGlobals mg) (hfa : mg "law" = some (.ref fa))
    {f0 : Addr} {od0 an0 : Option Addr} {sl0 : Array (Option Value)} {oc0 kV0 dc0 pm0 cd0 ct0 : Value}
    (a0 : PySem.W.nsIn K mainGlobals "_law_same" = some (some (.ref f0))) (l0 : K.lookup f0 = some ⟨oc0, od0, .func (PySem.W.fnOf "_law_same" "_law_same" (defArgs s__law_same) (defBody s__law_same) (defScope s__law_same) .none kV0 dc0 pm0 an0 cd0 ct0), sl0⟩) (c0 : PySem.W.codeIn K cd0 "_law_same" = true) (k0 : PySem.W.keepIn K (.ref f0) = true)
    {f1 : Addr} {od1 an1 : Option Addr} {sl1 : Array (Option Value)} {oc1 kV1 dc1 pm1 cd1 ct1 : Value}
    (a1 : PySem.W.nsIn K mainGlobals "machine_of" = some (some (.ref f1))) (l1 : K.lookup f1 = some ⟨oc1, od1, .func (PySem.W.fnOf "machine_of" "machine_of" (defArgs s_machine_of) (defBody s_machine_of) (defScope s_machine_of) .none kV1 dc1 pm1 an1 cd1 ct1), sl1⟩) (c1 : PySem.W.codeIn K cd1 "machine_of" = true) (k1 : PySem.W.keepIn K (.ref f1) = true)
    {f2 : Addr} {od2 an2 : Option Addr} {sl2 : Array (Option Value)} {oc2 kV2 dc2 pm2 cd2 ct2 : Value}
    (a2 : PySem.W.nsIn K mainGlobals "first_unknown" = some (some (.ref f2))) (l2 : K.lookup f2 = some ⟨oc2, od2, .func (PySem.W.fnOf "first_unknown" "first_unknown" (defArgs s_first_unknown) (defBody s_first_unknown) (defScope s_first_unknown) .none kV2 dc2 pm2 an2 cd2 ct2), sl2⟩) (c2 : PySem.W.codeIn K cd2 "first_unknown" = true) (k2 : PySem.W.keepIn K (.ref f2) = true)
    {f3 : Addr} {od3 an3 : Option Addr} {sl3 : Array (Option Value)} {oc3 kV3 dc3 pm3 cd3 ct3 : Value}
    (a3 : PySem.W.nsIn K mainGlobals "is_name" = some (some (.ref f3))) (l3 : K.lookup f3 = some ⟨oc3, od3, .func (PySem.W.fnOf "is_name" "is_name" (defArgs s_is_name) (defBody s_is_name) (defScope s_is_name) .none kV3 dc3 pm3 an3 cd3 ct3), sl3⟩) (c3 : PySem.W.codeIn K cd3 "is_name" = true) (k3 : PySem.W.keepIn K (.ref f3) = true)
    {f4 : Addr} {od4 an4 : Option Addr} {sl4 : Array (Option Value)} {oc4 kV4 dc4 pm4 cd4 ct4 : Value}
    (a4 : PySem.W.nsIn K mainGlobals "row_fault" = some (some (.ref f4))) (l4 : K.lookup f4 = some ⟨oc4, od4, .func (PySem.W.fnOf "row_fault" "row_fault" (defArgs s_row_fault) (defBody s_row_fault) (defScope s_row_fault) .none kV4 dc4 pm4 an4 cd4 ct4), sl4⟩) (c4 : PySem.W.codeIn K cd4 "row_fault" = true) (k4 : PySem.W.keepIn K (.ref f4) = true)
    {f5 : Addr} {od5 an5 : Option Addr} {sl5 : Array (Option Value)} {oc5 kV5 dc5 pm5 cd5 ct5 : Value}
    (a5 : PySem.W.nsIn K mainGlobals "words_in" = some (some (.ref f5))) (l5 : K.lookup f5 = some ⟨oc5, od5, .func (PySem.W.fnOf "words_in" "words_in" (defArgs s_words_in) (defBody s_words_in) (defScope s_words_in) .none kV5 dc5 pm5 an5 cd5 ct5), sl5⟩) (c5 : PySem.W.codeIn K cd5 "words_in" = true) (k5 : PySem.W.keepIn K (.ref f5) = true)
    {f6 : Addr} {od6 an6 : Option Addr} {sl6 : Array (Option Value)} {oc6 kV6 dc6 pm6 cd6 ct6 : Value}
    (a6 : PySem.W.nsIn K mainGlobals "read_machine" = some (some (.ref f6))) (l6 : K.lookup f6 = some ⟨oc6, od6, .func (PySem.W.fnOf "read_machine" "read_machine" (defArgs s_read_machine) (defBody s_read_machine) (defScope s_read_machine) .none kV6 dc6 pm6 an6 cd6 ct6), sl6⟩) (c6 : PySem.W.codeIn K cd6 "read_machine" = true) (k6 : PySem.W.keepIn K (.ref f6) = true)
    {f7 : Addr} {od7 an7 : Option Addr} {sl7 : Array (Option Value)} {oc7 kV7 dc7 pm7 cd7 ct7 : Value}
    (a7 : PySem.W.nsIn K mainGlobals "_law_refused" = some (some (.ref f7))) (l7 : K.lookup f7 = some ⟨oc7, od7, .func (PySem.W.fnOf "_law_refused" "_law_refused" (defArgs s__law_refused) (defBody s__law_refused) (defScope s__law_refused) .none kV7 dc7 pm7 an7 cd7 ct7), sl7⟩) (c7 : PySem.W.codeIn K cd7 "_law_refused" = true) (k7 : PySem.W.keepIn K (.ref f7) = true)
    {f8 : Addr} {od8 an8 : Option Addr} {sl8 : Array (Option Value)} {oc8 kV8 dc8 pm8 cd8 ct8 : Value}
    (a8 : PySem.W.nsIn K mainGlobals "_law_told" = some (some (.ref f8))) (l8 : K.lookup f8 = some ⟨oc8, od8, .func (PySem.W.fnOf "_law_told" "_law_told" (defArgs s__law_told) (defBody s__law_told) (defScope s__law_told) .none kV8 dc8 pm8 an8 cd8 ct8), sl8⟩) (c8 : PySem.W.codeIn K cd8 "_law_told" = true) (k8 : PySem.W.keepIn K (.ref f8) = true)
    {f9 : Addr} {od9 an9 : Option Addr} {sl9 : Array (Option Value)} {oc9 kV9 dc9 pm9 cd9 ct9 : Value}
    (a9 : PySem.W.nsIn K mainGlobals "_law_is_name" = some (some (.ref f9))) (l9 : K.lookup f9 = some ⟨oc9, od9, .func (PySem.W.fnOf "_law_is_name" "_law_is_name" (defArgs s__law_is_name) (defBody s__law_is_name) (defScope s__law_is_name) .none kV9 dc9 pm9 an9 cd9 ct9), sl9⟩) (c9 : PySem.W.codeIn K cd9 "_law_is_name" = true) (k9 : PySem.W.keepIn K (.ref f9) = true)
    {f10 : Addr} {od10 an10 : Option Addr} {sl10 : Array (Option Value)} {oc10 kV10 dc10 pm10 cd10 ct10 : Value}
    (a10 : PySem.W.nsIn K mainGlobals "_law_fault" = some (some (.ref f10))) (l10 : K.lookup f10 = some ⟨oc10, od10, .func (PySem.W.fnOf "_law_fault" "_law_fault" (defArgs s__law_fault) (defBody s__law_fault) (defScope s__law_fault) .none kV10 dc10 pm10 an10 cd10 ct10), sl10⟩) (c10 : PySem.W.codeIn K cd10 "_law_fault" = true) (k10 : PySem.W.keepIn K (.ref f10) = true)
    {f11 : Addr} {od11 an11 : Option Addr} {sl11 : Array (Option Value)} {oc11 kV11 dc11 pm11 cd11 ct11 : Value}
    (a11 : PySem.W.nsIn K mainGlobals "_law_due" = some (some (.ref f11))) (l11 : K.lookup f11 = some ⟨oc11, od11, .func (PySem.W.fnOf "_law_due" "_law_due" (defArgs s__law_due) (defBody s__law_due) (defScope s__law_due) .none kV11 dc11 pm11 an11 cd11 ct11), sl11⟩) (c11 : PySem.W.codeIn K cd11 "_law_due" = true) (k11 : PySem.W.keepIn K (.ref f11) = true)
    {f12 : Addr} {od12 an12 : Option Addr} {sl12 : Array (Option Value)} {oc12 kV12 dc12 pm12 cd12 ct12 : Value}
    (a12 : PySem.W.nsIn K mainGlobals "_law_next" = some (some (.ref f12))) (l12 : K.lookup f12 = some ⟨oc12, od12, .func (PySem.W.fnOf "_law_next" "_law_next" (defArgs s__law_next) (defBody s__law_next) (defScope s__law_next) .none kV12 dc12 pm12 an12 cd12 ct12), sl12⟩) (c12 : PySem.W.codeIn K cd12 "_law_next" = true) (k12 : PySem.W.keepIn K (.ref f12) = true)
    {f13 : Addr} {od13 an13 : Option Addr} {sl13 : Array (Option Value)} {oc13 kV13 dc13 pm13 cd13 ct13 : Value}
    (a13 : PySem.W.nsIn K mainGlobals "_law_spoilt" = some (some (.ref f13))) (l13 : K.lookup f13 = some ⟨oc13, od13, .func (PySem.W.fnOf "_law_spoilt" "_law_spoilt" (defArgs s__law_spoilt) (defBody s__law_spoilt) (defScope s__law_spoilt) .none kV13 dc13 pm13 an13 cd13 ct13), sl13⟩) (c13 : PySem.W.codeIn K cd13 "_law_spoilt" = true) (k13 : PySem.W.keepIn K (.ref f13) = true)
    {f14 : Addr} {od14 an14 : Option Addr} {sl14 : Array (Option Value)} {oc14 kV14 dc14 pm14 cd14 ct14 : Value}
    (a14 : PySem.W.nsIn K mainGlobals "_law_names" = some (some (.ref f14))) (l14 : K.lookup f14 = some ⟨oc14, od14, .func (PySem.W.fnOf "_law_names" "_law_names" (defArgs s__law_names) (defBody s__law_names) (defScope s__law_names) .none kV14 dc14 pm14 an14 cd14 ct14), sl14⟩) (c14 : PySem.W.codeIn K cd14 "_law_names" = true) (k14 : PySem.W.keepIn K (.ref f14) = true)
    {f15 : Addr} {od15 an15 : Option Addr} {sl15 : Array (Option Value)} {oc15 kV15 dc15 pm15 cd15 ct15 : Value}
    (a15 : PySem.W.nsIn K mainGlobals "_law_goal" = some (some (.ref f15))) (l15 : K.lookup f15 = some ⟨oc15, od15, .func (PySem.W.fnOf "_law_goal" "_law_goal" (defArgs s__law_goal) (defBody s__law_goal) (defScope s__law_goal) .none kV15 dc15 pm15 an15 cd15 ct15), sl15⟩) (c15 : PySem.W.codeIn K cd15 "_law_goal" = true) (k15 : PySem.W.keepIn K (.ref f15) = true)
    {f16 : Addr} {od16 an16 : Option Addr} {sl16 : Array (Option Value)} {oc16 kV16 dc16 pm16 cd16 ct16 : Value}
    (a16 : PySem.W.nsIn K mainGlobals "_law_machine" = some (some (.ref f16))) (l16 : K.lookup f16 = some ⟨oc16, od16, .func (PySem.W.fnOf "_law_machine" "_law_machine" (defArgs s__law_machine) (defBody s__law_machine) (defScope s__law_machine) .none kV16 dc16 pm16 an16 cd16 ct16), sl16⟩) (c16 : PySem.W.codeIn K cd16 "_law_machine" = true) (k16 : PySem.W.keepIn K (.ref f16) = true)
    {f17 : Addr} {od17 an17 : Option Addr} {sl17 : Array (Option Value)} {oc17 kV17 dc17 pm17 cd17 ct17 : Value}
    (a17 : PySem.W.nsIn K mainGlobals "_law_begin" = some (some (.ref f17))) (l17 : K.lookup f17 = some ⟨oc17, od17, .func (PySem.W.fnOf "_law_begin" "_law_begin" (defArgs s__law_begin) (defBody s__law_begin) (defScope s__law_begin) .none kV17 dc17 pm17 an17 cd17 ct17), sl17⟩) (c17 : PySem.W.codeIn K cd17 "_law_begin" = true) (k17 : PySem.W.keepIn K (.ref f17) = true)
    {f18 : Addr} {od18 an18 : Option Addr} {sl18 : Array (Option Value)} {oc18 kV18 dc18 pm18 cd18 ct18 : Value}
    (a18 : PySem.W.nsIn K mainGlobals "law" = some (some (.ref f18))) (l18 : K.lookup f18 = some ⟨oc18, od18, .func (PySem.W.fnOf "law" "law" (defArgs s_law) (defBody s_law) (defScope s_law) .none kV18 dc18 pm18 an18 cd18 ct18), sl18⟩) (c18 : PySem.W.codeIn K cd18 "law" = true) (k18 : PySem.W.keepIn K (.ref f18) = true)
    (z_ValueError : PySem.W.nsIn K mainGlobals "ValueError" = some none)
    (z_abs : PySem.W.nsIn K mainGlobals "abs" = some none)
    (z_all : PySem.W.nsIn K mainGlobals "all" = some none)
    (z_bool : PySem.W.nsIn K mainGlobals "bool" = some none)
    (z_enumerate : PySem.W.nsIn K mainGlobals "enumerate" = some none)
    (z_int : PySem.W.nsIn K mainGlobals "int" = some none)
    (z_isinstance : PySem.W.nsIn K mainGlobals "isinstance" = some none)
    (z_len : PySem.W.nsIn K mainGlobals "len" = some none)
    (z_list : PySem.W.nsIn K mainGlobals "list" = some none)
    (z_max : PySem.W.nsIn K mainGlobals "max" = some none)
    (z_range : PySem.W.nsIn K mainGlobals "range" = some none)
    (z_str : PySem.W.nsIn K mainGlobals "str" = some none)
    (z_tuple : PySem.W.nsIn K mainGlobals "tuple" = some none)
    (z_zip : PySem.W.nsIn K mainGlobals "zip" = some none)
    {tk_LETTERS : Tok} (g_LETTERS : PySem.W.nsIn K mainGlobals "LETTERS" = some (some (.str k_LETTERS tk_LETTERS)))
    {tk_MOST_LETTERS : Tok} (g_MOST_LETTERS : PySem.W.nsIn K mainGlobals "MOST_LETTERS" = some (some (.int 6 tk_MOST_LETTERS)))
    {tk_MOST_ROOMS : Tok} (g_MOST_ROOMS : PySem.W.nsIn K mainGlobals "MOST_ROOMS" = some (some (.int 26 tk_MOST_ROOMS)))
    {tk_MOST_SIGNS : Tok} (g_MOST_SIGNS : PySem.W.nsIn K mainGlobals "MOST_SIGNS" = some (some (.int 8 tk_MOST_SIGNS)))
    {C_HomeError : Addr}
    {C_NoMachine : Addr}
    {C_NoWord : Addr}
    {C_NoSheet : Addr}
    (aC_HomeError : PySem.W.nsIn K mainGlobals "HomeError" = some (some (.ref C_HomeError)))
    (aC_NoMachine : PySem.W.nsIn K mainGlobals "NoMachine" = some (some (.ref C_NoMachine)))
    (aC_NoWord : PySem.W.nsIn K mainGlobals "NoWord" = some (some (.ref C_NoWord)))
    (aC_NoSheet : PySem.W.nsIn K mainGlobals "NoSheet" = some (some (.ref C_NoSheet)))
    {nm_NoMachine q_NoMachine : Str} {N_NoMachine fI_NoMachine : Addr} {bs_NoMachine : List Value} {sn_NoMachine : List Str} {sub_NoMachine : List Value} {ab_NoMachine : Bool} {col_NoMachine : Option Bool} {dd_NoMachine : Option Addr} {m0_NoMachine m1_NoMachine m2_NoMachine m3_NoMachine m5_NoMachine : Option Value} {oi_NoMachine ani_NoMachine : Option Addr} {sli_NoMachine : Array (Option Value)} {oci_NoMachine kVi_NoMachine dci_NoMachine pmi_NoMachine cdi_NoMachine cti_NoMachine : Value}
    (xL_NoMachine : K.lookup C_NoMachine = some (excClassObj nm_NoMachine q_NoMachine C_NoMachine N_NoMachine bs_NoMachine [.ref C_HomeError, .type "ValueError", .type "Exception", .type "BaseException", .type "object"] true sn_NoMachine sub_NoMachine ab_NoMachine col_NoMachine dd_NoMachine m0_NoMachine m1_NoMachine m2_NoMachine m3_NoMachine m5_NoMachine "ValueError.__new__"))
    (xs_NoMachine : PySem.W.findIn K (.ref C_NoMachine) "__setattr__" = some (some (.builtin "object.__setattr__")))
    (xe_NoMachine : PySem.W.subIn K (.ref C_NoMachine) (.type "BaseException") = some true)
    (xt_NoMachine : PySem.W.typeIn K (.ref C_NoMachine) = some (.type "type"))
    (xk_NoMachine : PySem.W.keepIn K (.ref C_NoMachine) = true)
    (xi_NoMachine : PySem.W.findIn K (.ref C_NoMachine) "__init__" = some (some (.ref fI_NoMachine)))
    (xf_NoMachine : PySem.W.typeIn K (.ref fI_NoMachine) = some (.type "function"))
    (xl_NoMachine : K.lookup fI_NoMachine = some ⟨oci_NoMachine, oi_NoMachine, .func (PySem.W.fnOf "__init__" "NoMachine.__init__" (defArgs i_NoMachine) (defBody i_NoMachine) (defScope i_NoMachine) .none kVi_NoMachine dci_NoMachine pmi_NoMachine ani_NoMachine cdi_NoMachine cti_NoMachine), sli_NoMachine⟩)
    (xc_NoMachine : PySem.W.codeIn K cdi_NoMachine "NoMachine.__init__" = true)
    (xo_NoMachine : PySem.W.keepIn K (.ref fI_NoMachine) = true)
    (xn_NoMachine_row : PySem.W.findIn K (.ref C_NoMachine) "row" = some none)
    (xn_NoMachine_word : PySem.W.findIn K (.ref C_NoMachine) "word" = some none)
    (xr_HomeError : PySem.W.readsIn K C_HomeError (.type "type") = true)
    (xg_HomeError : PySem.W.specialIn K (.ref C_HomeError) "__getattribute__" = some (some (.builtin "type.__getattribute__")))
    (xa_HomeError : PySem.W.findCls K (.ref C_HomeError) (.type "type") "__init__" = some (.val (.builtin "ValueError.__init__")))
    (qg_NoMachine : PySem.W.findIn K (.ref C_NoMachine) "__getattribute__" = some (some (.builtin "BaseException.__getattribute__")))
    (qk_NoMachine : PySem.W.findIn K (.ref C_NoMachine) "__getattr__" = some none)
    (qs_NoMachine : PySem.W.subIn K (.ref C_NoMachine) (.type "BaseException") = some true)
    (qd_NoMachine : PySem.W.hasDictIn K C_NoMachine = true)
    (qa_NoMachine : PySem.W.findIn K (.ref C_NoMachine) "__class__" = some (some (.builtin "object.__class__")))
    (qn_NoMachine : PySem.W.specialIn K (.builtin "object.__class__") "__get__" = some (some (.builtin "getset_descriptor.__get__")))
    (qt_NoMachine : PySem.W.takesIn K (.builtin "object.__class__") = some true)
    (qm_NoMachine : PySem.W.mroIn K C_NoMachine (.type "object") = some true)
    (q0_NoMachine : PySem.W.subIn K (.ref C_NoMachine) (.ref C_NoMachine) = some true)
    (qv_NoMachine : PySem.W.subIn K (.ref C_NoMachine) (.type "ValueError") = some true)
    (qh_NoMachine : PySem.W.subIn K (.ref C_NoMachine) (.ref C_HomeError) = some true)
    (qb_NoMachine : PySem.W.subIn K (.ref C_HomeError) (.type "BaseException") = some true)
    (qc_NoMachine : PySem.W.isClsIn K C_HomeError = true)
    (qy_NoMachine : PySem.W.typeIn K (.ref C_HomeError) = some (.type "type"))
    (qo_NoMachine_NoWord : PySem.W.isClsIn K C_NoWord = true)
    (qp_NoMachine_NoWord : PySem.W.typeIn K (.ref C_NoWord) = some (.type "type"))
    (qq_NoMachine_NoWord : PySem.W.subIn K (.ref C_NoMachine) (.ref C_NoWord) = some false)
    (qo_NoMachine_NoSheet : PySem.W.isClsIn K C_NoSheet = true)
    (qp_NoMachine_NoSheet : PySem.W.typeIn K (.ref C_NoSheet) = some (.type "type"))
    (qq_NoMachine_NoSheet : PySem.W.subIn K (.ref C_NoMachine) (.ref C_NoSheet) = some false) :
    ∃ fd : FuncData, (∀ (s : Shared) (v : Value), BindsTo s fd ⟨[v], []⟩ [("_law_script", v)]) ∧ ∀ base : Heap, K.In base → base.Ns mainGlobals mg → FnOk l.prog w K mg base CX0 10 fa fd ["_law_script"] (spF K 1 m_law) := by
  have e := hfa.symm.trans (PySem.W.mg_of X G a18)
  cases e
  have T : Top K mg := { d__law_same := df_mk X G a0 l0 c0 k0, d_machine_of := df_mk X G a1 l1 c1 k1, d_first_unknown := df_mk X G a2 l2 c2 k2, d_is_name := df_mk X G a3 l3 c3 k3, d_row_fault := df_mk X G a4 l4 c4 k4, d_words_in := df_mk X G a5 l5 c5 k5, d_read_machine := df_mk X G a6 l6 c6 k6, d__law_refused := df_mk X G a7 l7 c7 k7, d__law_told := df_mk X G a8 l8 c8 k8, d__law_is_name := df_mk X G a9 l9 c9 k9, d__law_fault := df_mk X G a10 l10 c10 k10, d__law_due := df_mk X G a11 l11 c11 k11, d__law_next := df_mk X G a12 l12 c12 k12, d__law_spoilt := df_mk X G a13 l13 c13 k13, d__law_names := df_mk X G a14 l14 c14 k14, d__law_goal := df_mk X G a15 l15 c15 k15, d__law_machine := df_mk X G a16 l16 c16 k16, d__law_begin := df_mk X G a17 l17 c17 k17, b_ValueError := PySem.W.mg_none_of X G z_ValueError, b_abs := PySem.W.mg_none_of X G z_abs, b_all := PySem.W.mg_none_of X G z_all, b_bool := PySem.W.mg_none_of X G z_bool, b_enumerate := PySem.W.mg_none_of X G z_enumerate, b_int := PySem.W.mg_none_of X G z_int, b_isinstance := PySem.W.mg_none_of X G z_isinstance, b_len := PySem.W.mg_none_of X G z_len, b_list := PySem.W.mg_none_of X G z_list, b_max := PySem.W.mg_none_of X G z_max, b_range := PySem.W.mg_none_of X G z_range, b_str := PySem.W.mg_none_of X G z_str, b_tuple := PySem.W.mg_none_of X G z_tuple, b_zip := PySem.W.mg_none_of X G z_zip, c_LETTERS := ⟨tk_LETTERS, PySem.W.mg_of X G g_LETTERS⟩, c_MOST_LETTERS := ⟨tk_MOST_LETTERS, PySem.W.mg_of X G g_MOST_LETTERS⟩, c_MOST_ROOMS := ⟨tk_MOST_ROOMS, PySem.W.mg_of X G g_MOST_ROOMS⟩, c_MOST_SIGNS := ⟨tk_MOST_SIGNS, PySem.W.mg_of X G g_MOST_SIGNS⟩, x_NoMachine := xcl_NoMachine (PySem.W.mg_of X G aC_NoMachine) (PySem.W.mg_of X G aC_HomeError) ⟨xr_HomeError, xg_HomeError, xa_HomeError⟩ ⟨⟨_, _, _, _, _, _, _, _, _, _, _, _, _, _, _, xL_NoMachine, (by first | rfl | decide +kernel)⟩, xs_NoMachine, xe_NoMachine, xt_NoMachine, xk_NoMachine⟩ xi_NoMachine xf_NoMachine (fun_mk (st := i_NoMachine) xl_NoMachine xc_NoMachine xo_NoMachine) xn_NoMachine_row xn_NoMachine_word, q_NoMachine := ⟨_, _, _, _, PySem.W.mg_of X G aC_HomeError, PySem.W.mg_of X G aC_NoMachine, PySem.W.mg_of X G aC_NoWord, PySem.W.mg_of X G aC_NoSheet, ⟨qg_NoMachine, qk_NoMachine, qs_NoMachine, qd_NoMachine, qa_NoMachine, qn_NoMachine, qt_NoMachine, qm_NoMachine⟩, exm_of qb_NoMachine qc_NoMachine qy_NoMachine qh_NoMachine, kit_self _ _, kit_ve qv_NoMachine, kit_no2 (kit_no q0_NoMachine qo_NoMachine_NoWord qp_NoMachine_NoWord qq_NoMachine_NoWord) (kit_no q0_NoMachine qo_NoMachine_NoSheet qp_NoMachine_NoSheet qq_NoMachine_NoSheet)⟩, qf_NoMachine := ⟨fun C h => by cases (PySem.W.mg_of X G aC_NoMachine).symm.trans h; exact xn_NoMachine_row, fun C h => by cases (PySem.W.mg_of X G aC_NoMachine).symm.trans h; exact xn_NoMachine_word⟩ }
  exact ⟨PySem.W.fnOf "law" "law" (defArgs s_law) (defBody s_law) (defScope s_law) .none kV18 dc18 pm18 an18 cd18 ct18, fun s v => .of_eq rfl, fun base _ _ => ok_law T (fun_mk (st := s_law) l18 c18 k18)⟩
end Q
open PySem PySem.W PyProof.Rows
set_option maxHeartbeats 0 in
theorem PySem.Challenge.cw_bringhome_k08_machines_refused_holds : PySem.Challenge.rw_bringhome_k08_machines_refused.Holds := by
  w_on; o_law; k_head; (case hw => w_witness2)
  k_fill
  refine L2.walk_of (l := PySem.Challenge.rw_bringhome_k08_machines_refused) (n := 63) (k := 10) (x := "_law_script") (CX := fun _ => L2.CX0) (sp := fun w => Q.spF _ 1 Q.m_law) rfl (by decide) rfl ⟨rfl, by decide, by decide⟩ (fun w h Y => PySem.W.kIn_of Y) ?F (fun _ H a ns hl hO hS => Q.law_sp Q.law_true H a ns hl hO hS _) (fun _ _ _ _ _ h => h)
  case F =>
    intro w mg fa h KX G hmg
    refine' Q.all_mk KX G hmg ?a0 ?l0 ?c0 ?k0 ?a1 ?l1 ?c1 ?k1 ?a2 ?l2 ?c2 ?k2 ?a3 ?l3 ?c3 ?k3 ?a4 ?l4 ?c4 ?k4 ?a5 ?l5 ?c5 ?k5 ?a6 ?l6 ?c6 ?k6 ?a7 ?l7 ?c7 ?k7 ?a8 ?l8 ?c8 ?k8 ?a9 ?l9 ?c9 ?k9 ?a10 ?l10 ?c10 ?k10 ?a11 ?l11 ?c11 ?k11 ?a12 ?l12 ?c12 ?k12 ?a13 ?l13 ?c13 ?k13 ?a14 ?l14 ?c14 ?k14 ?a15 ?l15 ?c15 ?k15 ?a16 ?l16 ?c16 ?k16 ?a17 ?l17 ?c17 ?k17 ?a18 ?l18 ?c18 ?k18 ?z_ValueError ?z_abs ?z_all ?z_bool ?z_enumerate ?z_int ?z_isinstance ?z_len ?z_list ?z_max ?z_range ?z_str ?z_tuple ?z_zip ?g_LETTERS ?g_MOST_LETTERS ?g_MOST_ROOMS ?g_MOST_SIGNS ?aC_HomeError ?aC_NoMachine ?aC_NoWord ?aC_NoSheet ?xL_NoMachine ?xs_NoMachine ?xe_NoMachine ?xt_NoMachine ?xk_NoMachine ?xi_NoMachine ?xf_NoMachine ?xl_NoMachine ?xc_NoMachine ?xo_NoMachine ?xn_NoMachine_row ?xn_NoMachine_word ?xr_HomeError ?xg_HomeError ?xa_HomeError ?qg_NoMachine ?qk_NoMachine ?qs_NoMachine ?qd_NoMachine ?qa_NoMachine ?qn_NoMachine ?qt_NoMachine ?qm_NoMachine ?q0_NoMachine ?qv_NoMachine ?qh_NoMachine ?qb_NoMachine ?qc_NoMachine ?qy_NoMachine ?qo_NoMachine_NoWord ?qp_NoMachine_NoWord ?qq_NoMachine_NoWord ?qo_NoMachine_NoSheet ?qp_NoMachine_NoSheet ?qq_NoMachine_NoSheet
    (case a0 => k_is); (case l0 => k_is); (case c0 => k_is); (case k0 => k_is); (case a1 => k_is); (case l1 => k_is); (case c1 => k_is); (case k1 => k_is); (case a2 => k_is); (case l2 => k_is); (case c2 => k_is); (case k2 => k_is); (case a3 => k_is); (case l3 => k_is); (case c3 => k_is); (case k3 => k_is); (case a4 => k_is); (case l4 => k_is); (case c4 => k_is); (case k4 => k_is); (case a5 => k_is); (case l5 => k_is); (case c5 => k_is); (case k5 => k_is); (case a6 => k_is); (case l6 => k_is); (case c6 => k_is); (case k6 => k_is); (case a7 => k_is); (case l7 => k_is); (case c7 => k_is); (case k7 => k_is); (case a8 => k_is); (case l8 => k_is); (case c8 => k_is); (case k8 => k_is); (case a9 => k_is); (case l9 => k_is); (case c9 => k_is); (case k9 => k_is); (case a10 => k_is); (case l10 => k_is); (case c10 => k_is); (case k10 => k_is); (case a11 => k_is); (case l11 => k_is); (case c11 => k_is); (case k11 => k_is); (case a12 => k_is); (case l12 => k_is); (case c12 => k_is); (case k12 => k_is); (case a13 => k_is); (case l13 => k_is); (case c13 => k_is); (case k13 => k_is); (case a14 => k_is); (case l14 => k_is); (case c14 => k_is); (case k14 => k_is); (case a15 => k_is); (case l15 => k_is); (case c15 => k_is); (case k15 => k_is); (case a16 => k_is); (case l16 => k_is); (case c16 => k_is); (case k16 => k_is); (case a17 => k_is); (case l17 => k_is); (case c17 => k_is); (case k17 => k_is); (case a18 => k_is); (case l18 => k_is); (case c18 => k_is); (case k18 => k_is); (case z_ValueError => k_is); (case z_abs => k_is); (case z_all => k_is); (case z_bool => k_is); (case z_enumerate => k_is); (case z_int => k_is); (case z_isinstance => k_is); (case z_len => k_is); (case z_list => k_is); (case z_max => k_is); (case z_range => k_is); (case z_str => k_is); (case z_tuple => k_is); (case z_zip => k_is); (case g_LETTERS => k_is); (case g_MOST_LETTERS => k_is); (case g_MOST_ROOMS => k_is); (case g_MOST_SIGNS => k_is); (case aC_HomeError => k_is); (case aC_NoMachine => k_is); (case aC_NoWord => k_is); (case aC_NoSheet => k_is); (case xL_NoMachine => k_is); (case xs_NoMachine => k_is); (case xe_NoMachine => k_is); (case xt_NoMachine => k_is); (case xk_NoMachine => k_is); (case xi_NoMachine => k_is); (case xf_NoMachine => k_is); (case xl_NoMachine => k_is); (case xc_NoMachine => k_is); (case xo_NoMachine => k_is); (case xn_NoMachine_row => k_is); (case xn_NoMachine_word => k_is); (case xr_HomeError => k_is); (case xg_HomeError => k_is); (case xa_HomeError => k_is); (case qg_NoMachine => k_is); (case qk_NoMachine => k_is); (case qs_NoMachine => k_is); (case qd_NoMachine => k_is); (case qa_NoMachine => k_is); (case qn_NoMachine => k_is); (case qt_NoMachine => k_is); (case qm_NoMachine => k_is); (case q0_NoMachine => k_is); (case qv_NoMachine => k_is); (case qh_NoMachine => k_is); (case qb_NoMachine => k_is); (case qc_NoMachine => k_is); (case qy_NoMachine => k_is); (case qo_NoMachine_NoWord => k_is); (case qp_NoMachine_NoWord => k_is); (case qq_NoMachine_NoWord => k_is); (case qo_NoMachine_NoSheet => k_is); (case qp_NoMachine_NoSheet => k_is); (case qq_NoMachine_NoSheet => k_is)
